/-
  What the functions return.
-/
import Derived.Test.YtjfgmimgmapeeaaFtr
import Derived.Test.YtjfgmimgmapeeaaCd
namespace Go.Proofs.Ytjfgmimgmapeeaa.M
open Go Go.RowKit
set_option linter.unusedVariables false
set_option linter.unusedSimpArgs false
set_option maxRecDepth 4000

def nT (seg : Int) : Nat := (3 * seg).toNat
def mT (seg : Int) : Nat := (nT seg + 15) / 16
def tabSy (seed seg : Int) (keys : Option (List Str)) (vals : Option (List Int)) (bit : Nat) : Sy := sysT (nT seg) (mT seg) (edges seed (lS keys) seg) (bitR (lI vals) bit)
structure TaskF (seed seg width : Int) (keys : Option (List Str)) (vals : Option (List Int)) : Prop where
  s0 : 0 ≤ seed
  s1 : seed ≤ 9999
  g0 : 1 ≤ seg
  g1 : seg ≤ 24
  w0 : 1 ≤ width
  w1 : width ≤ 8
  kl : (lS keys).length ≤ 40
  vl : (lI vals).length = (lS keys).length
  vb : ∀ v ∈ lI vals, 0 ≤ v ∧ v ≤ 255
  nn : 3 * seg = (nT seg : Int)
  n1 : 1 ≤ nT seg
  n2 : nT seg ≤ 72
  mm : (((nT seg : Nat) : Int) + 15) / 16 = (mT seg : Int)
  el : ∀ e ∈ edges seed (lS keys) seg, e.length ≤ 1000
  eb : ∀ e ∈ edges seed (lS keys) seg, ∀ p ∈ e, 0 ≤ p ∧ p < (nT seg : Int)
theorem edges_el {seed seg : Int} {ks : List Str} : ∀ e ∈ edges seed ks seg, e.length ≤ 1000 := by
  intro e he
  obtain ⟨k, _, rfl⟩ := List.mem_map.1 he
  rw [tri_len]
  omega
theorem edges_eb {seed seg : Int} {ks : List Str} (hg : 1 ≤ seg) : ∀ e ∈ edges seed ks seg, ∀ p ∈ e, 0 ≤ p ∧ p < (nT seg : Int) := by
  intro e he p hp
  obtain ⟨k, _, rfl⟩ := List.mem_map.1 he
  obtain ⟨i, hi, rfl⟩ := List.mem_iff_getElem.1 hp
  rw [tri_len] at hi
  have hb := tri_bd (seed := seed) (key := k) (seg := seg) (i := i) (by omega) hi
  have hgd : (tri seed k seg 3).getD i 0 = (tri seed k seg 3)[i]'(by rw [tri_len]; exact hi) := by
    rw [List.getD_eq_getElem?_getD, List.getElem?_eq_getElem (by rw [tri_len]; exact hi)]
    rfl
  rw [hgd] at hb
  unfold nT
  omega
theorem task_facts {seed seg width : Int} {keys : Option (List Str)} {vals : Option (List Int)} (h : taskOk seed seg width keys vals = true) : TaskF seed seg width keys vals := by
  simp only [taskOk, okKeys, Bool.and_eq_true, decide_eq_true_eq] at h
  obtain ⟨⟨⟨s0, s1⟩, ⟨_, kl⟩, g0, g1⟩, ⟨w0, w1⟩, vl, va⟩ := h
  have hw := pow_le256 (w := width.toNat) (by omega)
  have hn : 3 * seg = (nT seg : Int) := by unfold nT; omega
  refine ⟨s0, s1, g0, g1, w0, w1, by omega, by omega, fun v hv => ?_, hn, by omega, by omega, by unfold mT; omega, edges_el, edges_eb g0⟩
  have := List.all_eq_true.1 va v hv
  simp only [Bool.and_eq_true, decide_eq_true_eq] at this
  omega
theorem TaskF.ok {seed seg width : Int} {keys : Option (List Str)} {vals : Option (List Int)} (h : TaskF seed seg width keys vals) (bit : Nat) : okSy (tabSy seed seg keys vals bit) = true :=
  okSy_T h.n1 h.n2 h.mm (by rw [edges_len]; exact h.kl) (by rw [bitR_len, edges_len]; exact h.vl) h.eb
/-- What a table's refusal is. -/
def tabRefO (w : Nat) (f : Nat → Sy) (b : Nat) : AV := match (List.range w).find? (fun j => decide (refN (f j) ≠ 0)) with
  | some j => .tup [.int .i64 j, eI (refO (f j)), .bool true]
  | none => .tup [.int .i64 b, .nils, .bool false]
theorem find_none {w : Nat} {p : Nat → Bool} (h : ∀ j, j < w → p j = false) : (List.range w).find? p = none := by
  rw [List.find?_eq_none]
  intro j hj
  rw [h j (List.mem_range.1 hj)]
  simp
theorem find_some {w i : Nat} {p : Nat → Bool} (hi : i < w) (h : ∀ j, j < i → p j = false) (hp : p i = true) : (List.range w).find? p = some i := by
  have e : List.range w = List.range i ++ (List.range (w - i)).map (i + ·) := by
    rw [← List.range_add]
    congr 1
    omega
  rw [e, List.find?_append, find_none h]
  obtain ⟨k, hk⟩ : ∃ k, w - i = k + 1 := ⟨w - i - 1, by omega⟩
  rw [hk, List.range_succ_eq_map]
  simp [hp]
theorem tabRef_none {w : Nat} {f : Nat → Sy} (h : ∀ j, j < w → refN (f j) = 0) : tabRefO w f 0 = .tup [.int .i64 0, .nils, .bool false] := by
  unfold tabRefO
  rw [find_none fun j hj => by simp [h j hj]]
  rfl
theorem tabRef_some {w i : Nat} {f : Nat → Sy} (hi : i < w) (h : ∀ j, j < i → refN (f j) = 0) (hp : refN (f i) ≠ 0) : tabRefO w f 0 = .tup [.int .i64 i, eI (refO (f i)), .bool true] := by
  unfold tabRefO
  rw [find_some hi (fun j hj => by simp [h j hj]) (by simp [hp])]
def tabRefV (seed seg width : Int) (keys : Option (List Str)) (vals : Option (List Int)) : AV :=
  if taskOk seed seg width keys vals then tabRefO width.toNat (tabSy seed seg keys vals) 0 else .tup [.int .i64 0, .nils, .bool false]
theorem tabRefV_tup (seed seg width : Int) (keys : Option (List Str)) (vals : Option (List Int)) : ∃ (n : Int) (a : Option (List Int)) (b : Bool), tabRefV seed seg width keys vals = .tup [.int .i64 n, eI a, .bool b] ∧ (lI a).length ≤ 64 := by
  unfold tabRefV tabRefO
  split
  · split
    · exact ⟨_, _, _, rfl, refO_len⟩
    · exact ⟨_, none, _, rfl, by simp [lI]⟩
  · exact ⟨_, none, _, rfl, by simp [lI]⟩
theorem free_tabRefV {seed seg width : Int} {keys : Option (List Str)} {vals : Option (List Int)} : Free (tabRefV seed seg width keys vals) := by
  obtain ⟨n, a, b, h, _⟩ := tabRefV_tup seed seg width keys vals
  rw [h]
  exact free_tup (free_cons_ free_int (free_cons_ free_eI (free_cons_ free_bool free_nil_)))
/-- A refusal, if there is one. -/
theorem refO_pos {s : Sy} {m : Nat} (ho : OkE s (nSy s) m) (hk : okSy s = true) (h0 : refN s ≠ 0) : refO s = some (setL (ofN (nSy s) (refN s))) ∧ 0 < (setL (ofN (nSy s) (refN s))).length := by
  have hne : refO s ≠ none := fun h5 => h0 ((refO_zero ho hk).2 h5)
  unfold refO at hne ⊢
  rw [if_pos hk] at hne ⊢
  unfold optL at hne ⊢
  by_cases h5 : setL (ofN (nSy s) (refN s)) = []
  · rw [if_pos h5] at hne
    exact absurd rfl hne
  · rw [if_neg h5]
    exact ⟨rfl, List.length_pos_iff.2 h5⟩
theorem refOV_zero {s : Sy} {m : Nat} (ho : OkE s (nSy s) m) (hk : okSy s = true) (h0 : refN s = 0) : refOV s = .tup [.nils, .bool false] := by
  unfold refOV
  rw [(refO_zero ho hk).1 h0]
  rfl
theorem refOV_pos {s : Sy} {m : Nat} (ho : OkE s (nSy s) m) (hk : okSy s = true) (h0 : refN s ≠ 0) : refOV s = .tup [eI (refO s), .bool true] := by
  obtain ⟨h1, h2⟩ := refO_pos ho hk h0
  unfold refOV
  rw [h1]
  have : (lI (some (setL (ofN (nSy s) (refN s))))).length = (setL (ofN (nSy s) (refN s))).length := rfl
  rw [this, decide_eq_true h2]

set_option maxHeartbeats 1000000 in
theorem c_spec_TableRefusal (seed seg width : Int) (keys : Option (List Str)) (vals : Option (List Int)) : Fn Try.prog 8 [.int .i64 seed, eS keys, eI vals, .int .i64 seg, .int .i64 width] (· = tabRefV seed seg width keys vals) := by
  refine Fn.of free_tabRefV fun h => ?_
  refine enter (by kernel_rfl) e8 (by kernel_rfl) rfl fun hok => ?_
  simp only [r8, initEnv_5]
  (try (simp (disch := first | omega | (simp <;> omega) | fail) only [push_cast, ↓reduceIte, Nat.reduceEqDiff, Nat.reduceAdd, Nat.reduceMul, Nat.reduceSub, Nat.reduceLT, Int.reduceToNat]))
  refine (c_spec_reTask _ _ _ _ _).call ?_
  unfold tabRefV
  cases hk : taskOk seed seg width keys vals
  · (try (simp (disch := first | omega | (simp <;> omega) | fail) only [push_cast, ↓reduceIte, Nat.reduceEqDiff, Nat.reduceAdd, Nat.reduceMul, Nat.reduceSub, Nat.reduceLT, Int.reduceToNat]))
    all_goals (try rfl)
  have F := task_facts hk
  have hph := c_spec_peHyper seed keys seg F.s0 F.s1 F.g0 F.g1 (by have := F.kl; omega)
  rw [F.nn] at hph
  have hpl := fun b hb => c_spec_rePlane (nT seg) (mT seg) b (optE (edges seed (lS keys) seg)) vals F.n1 F.n2 F.mm (by rw [lIS_optE, edges_len]; exact F.kl) (by rw [lIS_optE]; exact F.el) (by rw [lIS_optE]; exact F.eb) (by have := F.vl; have := F.kl; omega) F.vb hb
  rw [lIS_optE] at hpl
  have hpl2 : ∀ b : Nat, b < 8 → Fn Try.prog 41 [eHy (nT seg) (optE (edges seed (lS keys) seg)), eI vals, .int .i64 b] (· = eSy (tabSy seed seg keys vals b)) := hpl
  have hok := F.ok
  obtain ⟨w, rfl⟩ : ∃ w : Nat, width = (w : Int) := ⟨width.toNat, by have := F.w0; omega⟩
  have hw1 := F.w1
  rw [Int.toNat_natCast]
  clear hpl hk F
  generalize nT seg = n at *
  generalize optE (edges seed (lS keys) seg) = oE at *
  generalize tabSy seed seg keys vals = f at *
  unfold eHy at hph hpl2
  (try (simp (disch := first | omega | (simp <;> omega) | fail) only [push_cast, ↓reduceIte, Nat.reduceEqDiff, Nat.reduceAdd, Nat.reduceMul, Nat.reduceSub, Nat.reduceLT, Int.reduceToNat]))
  refine hph.call ?_
  (try (simp (disch := first | omega | (simp <;> omega) | fail) only [push_cast, ↓reduceIte, Nat.reduceEqDiff, Nat.reduceAdd, Nat.reduceMul, Nat.reduceSub, Nat.reduceLT, Int.reduceToNat]))
  refine T_for w (fun i e h' => Pins e [(2, eI vals), (4, .int .i64 w), (13, .adr h.length 0), (14, .int .i64 i)] ∧ h'.cells h.length = some [.int .i64 n, eIS oE] ∧ ∀ j, j < i → refN (f j) = 0) ?_ ?_
  · (try (simp (disch := first | omega | (simp <;> omega) | fail) only [push_cast, ↓reduceIte, Nat.reduceEqDiff, Nat.reduceAdd, Nat.reduceMul, Nat.reduceSub, Nat.reduceLT, Int.reduceToNat]))
    all_goals (try exact ⟨by rw [cells_h0]; rfl, fun j hj => by omega⟩)
    all_goals (try exact fun j hj => by omega)
  rintro i e h' hi ⟨hp, hb, ha⟩
  refine T_pins hp fun e => ?_
  (try (simp (disch := first | omega | (simp <;> omega) | fail) only [push_cast, ↓reduceIte, Nat.reduceEqDiff, Nat.reduceAdd, Nat.reduceMul, Nat.reduceSub, Nat.reduceLT, Int.reduceToNat]))
  first | refine goC_split (fun hc => ?_) (fun hc => ?_) | refine cnd_split (fun hc => ?_) (fun hc => ?_)
  · (try (simp only [decide_eq_true_eq, decide_eq_false_iff_not, Bool.not_eq_true', Bool.not_eq_false', Bool.and_eq_true, Bool.or_eq_true, Int.not_lt, Int.not_le] at hc)); (try (simp (disch := first | omega | (simp <;> omega) | fail) only [push_cast, ↓reduceIte, Nat.reduceEqDiff, Nat.reduceAdd, Nat.reduceMul, Nat.reduceSub, Nat.reduceLT, Int.reduceToNat]))
    have hi2 : i < w := by omega
    (try (simp (disch := first | omega | (simp <;> omega) | fail) only [push_cast, ↓reduceIte, Nat.reduceEqDiff, Nat.reduceAdd, Nat.reduceMul, Nat.reduceSub, Nat.reduceLT, Int.reduceToNat, hb]))
    refine (hpl2 i (by omega)).call ?_
    refine (c_spec_RefusalOf (f i)).call ?_
    obtain ⟨m, ho⟩ := okE_n (hok i)
    by_cases h0 : refN (f i) = 0
    · rw [refOV_zero ho (hok i) h0]
      (try (simp (disch := first | omega | (simp <;> omega) | fail) only [push_cast, ↓reduceIte, Nat.reduceEqDiff, Nat.reduceAdd, Nat.reduceMul, Nat.reduceSub, Nat.reduceLT, Int.reduceToNat]))
      all_goals (try exact ⟨hb, fun j hj => by
        by_cases hji : j = i
        · rw [hji]; exact h0
        · exact ha j (by omega)⟩)
    · rw [refOV_pos ho (hok i) h0, tabRef_some hi2 ha h0]
      (try (simp (disch := first | omega | (simp <;> omega) | fail) only [push_cast, ↓reduceIte, Nat.reduceEqDiff, Nat.reduceAdd, Nat.reduceMul, Nat.reduceSub, Nat.reduceLT, Int.reduceToNat]))
  · (try (simp only [decide_eq_true_eq, decide_eq_false_iff_not, Bool.not_eq_true', Bool.not_eq_false', Bool.and_eq_true, Bool.or_eq_true, Int.not_lt, Int.not_le] at hc)); (try (simp (disch := first | omega | (simp <;> omega) | fail) only [push_cast, ↓reduceIte, Nat.reduceEqDiff, Nat.reduceAdd, Nat.reduceMul, Nat.reduceSub, Nat.reduceLT, Int.reduceToNat]))
    have hie : i = w := by omega
    subst hie
    rw [tabRef_none ha]
    (try (simp (disch := first | omega | (simp <;> omega) | fail) only [push_cast, ↓reduceIte, Nat.reduceEqDiff, Nat.reduceAdd, Nat.reduceMul, Nat.reduceSub, Nat.reduceLT, Int.reduceToNat]))

set_option maxHeartbeats 1000000 in
theorem c_impl_TableRefusal_o (seed seg width : Int) (keys : Option (List Str)) (vals : Option (List Int)) : FnO Try.prog 11 [.int .i64 seed, eS keys, eI vals, .int .i64 seg, .int .i64 width] (· = tabRefV seed seg width keys vals) := by
  intro h
  refine enter (by kernel_rfl) e11 (by kernel_rfl) rfl fun hok => ?_
  simp only [r11, initEnv_5]
  have hnone : ∀ g : H, ∃ t, Ow g [.tup [.int .i64 0, .nils, .bool false]] [t] (fun c => h.length ≤ c) ∧ t = .tup [.int .i64 0, .nils, .bool false] := fun g => ⟨_, (Ow.atom rfl (.atom rfl (.atom rfl .nil))).tupOf, rfl⟩
  (try (simp (disch := first | omega | (simp <;> omega) | fail) only [push_cast, ↓reduceIte, Nat.reduceEqDiff, Nat.reduceAdd, Nat.reduceMul, Nat.reduceSub, Nat.reduceLT, Int.reduceToNat]))
  refine (c_impl_valuesOk _ _ _ _ _).call ?_
  unfold tabRefV
  cases hk : taskOk seed seg width keys vals
  · (try (simp (disch := first | omega | (simp <;> omega) | fail) only [push_cast, ↓reduceIte, Nat.reduceEqDiff, Nat.reduceAdd, Nat.reduceMul, Nat.reduceSub, Nat.reduceLT, Int.reduceToNat]))
    all_goals (try exact hnone _)
  have F := task_facts hk
  have hph := c_impl_hyper seed keys seg F.s0 F.s1 F.g0 F.g1 (by have := F.kl; omega)
  rw [F.nn] at hph
  have hpl := fun b hb => c_impl_bitSystem (nT seg) (mT seg) b (optE (edges seed (lS keys) seg)) vals F.n1 F.n2 F.mm (by rw [lIS_optE, edges_len]; exact F.kl) (by rw [lIS_optE]; exact F.eb) (by have := F.vl; have := F.kl; omega) F.vb hb
  rw [lIS_optE] at hpl
  have hpl2 : ∀ b : Nat, b < 8 → Fn Try.prog 45 [eHy (nT seg) (optE (edges seed (lS keys) seg)), eI vals, .int .i64 b] (· = eSy (tabSy seed seg keys vals b)) := hpl
  have hok := F.ok
  obtain ⟨w, rfl⟩ : ∃ w : Nat, width = (w : Int) := ⟨width.toNat, by have := F.w0; omega⟩
  have hw1 := F.w1
  rw [Int.toNat_natCast]
  clear hpl hk F
  generalize nT seg = n at *
  generalize optE (edges seed (lS keys) seg) = oE at *
  generalize tabSy seed seg keys vals = f at *
  unfold eHy at hph hpl2
  (try (simp (disch := first | omega | (simp <;> omega) | fail) only [push_cast, ↓reduceIte, Nat.reduceEqDiff, Nat.reduceAdd, Nat.reduceMul, Nat.reduceSub, Nat.reduceLT, Int.reduceToNat]))
  refine hph.call ?_
  (try (simp (disch := first | omega | (simp <;> omega) | fail) only [push_cast, ↓reduceIte, Nat.reduceEqDiff, Nat.reduceAdd, Nat.reduceMul, Nat.reduceSub, Nat.reduceLT, Int.reduceToNat]))
  refine T_for w (fun i e h' => Pins e [(2, eI vals), (13, .adr h.length 0), (28, .int .i64 w), (29, .int .i64 i)] ∧ h'.cells h.length = some [.int .i64 n, eIS oE] ∧ ∀ j, j < i → refN (f j) = 0) ?_ ?_
  · (try (simp (disch := first | omega | (simp <;> omega) | fail) only [push_cast, ↓reduceIte, Nat.reduceEqDiff, Nat.reduceAdd, Nat.reduceMul, Nat.reduceSub, Nat.reduceLT, Int.reduceToNat]))
    all_goals (try exact ⟨by rw [cells_h0]; rfl, fun j hj => by omega⟩)
    all_goals (try exact fun j hj => by omega)
  rintro i e h' hi ⟨hp, hb, ha⟩
  refine T_pins hp fun e => ?_
  have hbl := cells_lt hb
  (try (simp (disch := first | omega | (simp <;> omega) | fail) only [push_cast, ↓reduceIte, Nat.reduceEqDiff, Nat.reduceAdd, Nat.reduceMul, Nat.reduceSub, Nat.reduceLT, Int.reduceToNat]))
  first | refine goC_split (fun hc => ?_) (fun hc => ?_) | refine cnd_split (fun hc => ?_) (fun hc => ?_)
  · (try (simp only [decide_eq_true_eq, decide_eq_false_iff_not, Bool.not_eq_true', Bool.not_eq_false', Bool.and_eq_true, Bool.or_eq_true, Int.not_lt, Int.not_le] at hc)); (try (simp (disch := first | omega | (simp <;> omega) | fail) only [push_cast, ↓reduceIte, Nat.reduceEqDiff, Nat.reduceAdd, Nat.reduceMul, Nat.reduceSub, Nat.reduceLT, Int.reduceToNat]))
    have hi2 : i < w := by omega
    (try (simp (disch := first | omega | (simp <;> omega) | fail) only [push_cast, ↓reduceIte, Nat.reduceEqDiff, Nat.reduceAdd, Nat.reduceMul, Nat.reduceSub, Nat.reduceLT, Int.reduceToNat, hb]))
    refine (hpl2 i (by omega)).call ?_
    obtain ⟨m, ho⟩ := okE_n (hok i)
    (try (simp (disch := first | omega | (simp <;> omega) | fail) only [push_cast, ↓reduceIte, Nat.reduceEqDiff, Nat.reduceAdd, Nat.reduceMul, Nat.reduceSub, Nat.reduceLT, Int.reduceToNat]))
    refine (c_impl_reduced (f i) _ m ho).use ?_
    rintro x ⟨L, hp, rfl⟩
    have hr : (stI (f i) (nSy (f i)) (lB (f i).rows).length).2 = refN (f i) := (lin_sim (f i)).ref.symm
    have hmsk := (ho.msk (i := (lB (f i).rows).length) (Nat.le_refl _)).shr
    rw [hr]
    have hlt : ofN (nSy (f i)) (refN (f i)) < 18446744073709551616 := by
      rw [← hr]
      exact shr_lt (ho.bnd2 (Nat.le_refl _))
    by_cases h0 : refN (f i) = 0
    · have h1 : ((ofN (nSy (f i)) (refN (f i)) : Nat) : Int) = 0 := by
        have := hmsk.2 h0
        unfold refN at *
        rw [this]
        rfl
      (try (simp (disch := first | omega | (simp <;> omega) | fail) only [push_cast, ↓reduceIte, Nat.reduceEqDiff, Nat.reduceAdd, Nat.reduceMul, Nat.reduceSub, Nat.reduceLT, Int.reduceToNat, h1]))
      all_goals (try exact ⟨hb, fun j hj => by
        by_cases hji : j = i
        · rw [hji]; exact h0
        · exact ha j (by omega)⟩)
    · have h1 : ¬ ((ofN (nSy (f i)) (refN (f i)) : Nat) : Int) = 0 := fun h5 => h0 (hmsk.1 (by unfold refN at h5; omega))
      rw [tabRef_some hi2 ha h0, (refO_pos ho (hok i) h0).1]
      (try (simp (disch := first | omega | (simp <;> omega) | fail) only [push_cast, ↓reduceIte, Nat.reduceEqDiff, Nat.reduceAdd, Nat.reduceMul, Nat.reduceSub, Nat.reduceLT, Int.reduceToNat, h1]))
      refine (c_impl_indices_o _ hlt).use fun x t l hR how => ?_
      subst hR
      (try (simp (disch := first | omega | (simp <;> omega) | fail) only [push_cast, ↓reduceIte, Nat.reduceEqDiff, Nat.reduceAdd, Nat.reduceMul, Nat.reduceSub, Nat.reduceLT, Int.reduceToNat]))
      refine ⟨_, (Ow.atom rfl (Ow.two (F := fun c => h.length ≤ c) (F' := fun _ => False) (how.mono fun c hc => ?_) (.atom rfl .nil) (fun c hc => hc) (fun _ h => h.elim))).tupOf, rfl⟩
      have := hc.1
      omega
  · (try (simp only [decide_eq_true_eq, decide_eq_false_iff_not, Bool.not_eq_true', Bool.not_eq_false', Bool.and_eq_true, Bool.or_eq_true, Int.not_lt, Int.not_le] at hc)); (try (simp (disch := first | omega | (simp <;> omega) | fail) only [push_cast, ↓reduceIte, Nat.reduceEqDiff, Nat.reduceAdd, Nat.reduceMul, Nat.reduceSub, Nat.reduceLT, Int.reduceToNat]))
    have hie : i = w := by omega
    subst hie
    rw [tabRef_none ha]
    (try (simp (disch := first | omega | (simp <;> omega) | fail) only [push_cast, ↓reduceIte, Nat.reduceEqDiff, Nat.reduceAdd, Nat.reduceMul, Nat.reduceSub, Nat.reduceLT, Int.reduceToNat]))
    all_goals (try exact hnone _)

theorem fits_cons {s : Sh} {ss : List Sh} {zs : List AV} (h : Fits (s :: ss) zs) : ∃ xs ys, zs = xs ++ ys ∧ Fit s xs ∧ Fits ss ys := by
  cases h with
  | cons h hr => exact ⟨_, _, rfl, h, hr⟩
theorem fits_nil {zs : List AV} (h : Fits [] zs) : zs = [] := by cases h; rfl
theorem fit_int {zs : List AV} (h : Fit (.int .i64) zs) : ∃ n : Int, zs = [.int .i64 n] ∧ -9223372036854775808 ≤ n ∧ n ≤ 9223372036854775807 := by
  cases h with
  | int h1 h2 => exact ⟨_, rfl, by simpa [IntKind.min, IntKind.signed, IntKind.bits] using h1, by simpa [IntKind.max, IntKind.signed, IntKind.bits] using h2⟩
theorem fit_str {zs : List AV} (h : Fit .str zs) : ∃ s : Str, zs = [.str s] ∧ s.length ≤ 9223372036854775807 := by
  cases h with
  | str h => exact ⟨_, rfl, h⟩
theorem fit_st {fs : List Sh} {zs : List AV} (h : Fit (.st fs) zs) : Fits fs zs := by
  cases h with
  | st h => exact h
theorem flatMap_eq {α β : Type} {f g : α → List β} : ∀ {l : List α}, (∀ a ∈ l, f a = g a) → l.flatMap f = l.flatMap g
  | [], _ => rfl
  | a :: l, h => by
    rw [List.flatMap_cons, List.flatMap_cons, h a (by simp), flatMap_eq fun b hb => h b (by simp [hb])]
theorem fit_strs {zs : List AV} (h : Fit (.sl .str 1) zs) : ∃ a : Option (List Str), zs = [eS a] := by
  cases h with
  | nil => exact ⟨none, rfl⟩
  | @sl _ _ n g hm hl h =>
    have hg : ∀ i, ∃ s : Str, i < n → g i = [.str s] := fun i => by
      by_cases hi : i < n
      · obtain ⟨s, hs, _⟩ := fit_str (h i hi)
        exact ⟨s, fun _ => hs⟩
      · exact ⟨[], fun h => absurd h hi⟩
    refine ⟨some ((List.range n).map fun i => Classical.choose (hg i)), ?_⟩
    simp only [eS, List.length_map, List.length_range, List.map_map]
    congr 2
    rw [← List.flatMap_singleton' ((List.range n).map _), List.flatMap_map]
    refine flatMap_eq fun i hi => ?_
    rw [Classical.choose_spec (hg i) (List.mem_range.1 hi)]
    rfl
theorem argsFit_cons {s : Sh} {ss : List Sh} {zs : List AV} (h : ArgsFit (s :: ss) zs) : ∃ xs ys, zs = argOf s xs :: ys ∧ Fit s xs ∧ ArgsFit ss ys := by
  cases h with
  | cons h hr => exact ⟨_, _, rfl, h, hr⟩
theorem argsFit_nil {zs : List AV} (h : ArgsFit [] zs) : zs = [] := by cases h; rfl

theorem fit_rows {α : Type} [Inhabited α] {s : Sh} {w : Nat} {f : α → List AV} (hf : ∀ xs, Fit s xs → ∃ a, xs = f a) {zs : List AV} (h : Fit (.sl s w) zs) : zs = [.nils] ∨ ∃ l : List α, zs = [.ro w (l.flatMap f) l.length] := by
  cases h with
  | nil => exact .inl rfl
  | @sl _ _ n g hm hl h =>
    have hg : ∀ i, ∃ a : α, i < n → g i = f a := fun i => by
      by_cases hi : i < n
      · obtain ⟨a, ha⟩ := hf _ (h i hi)
        exact ⟨a, fun _ => ha⟩
      · exact ⟨default, fun h => absurd h hi⟩
    refine .inr ⟨(List.range n).map fun i => Classical.choose (hg i), ?_⟩
    rw [List.length_map, List.length_range, List.flatMap_map]
    congr 2
    exact flatMap_eq fun i hi => Classical.choose_spec (hg i) (List.mem_range.1 hi)
theorem flatMap_one {α : Type} {f : α → AV} : ∀ {l : List α}, l.flatMap (fun a => [f a]) = l.map f
  | [] => rfl
  | a :: l => by rw [List.flatMap_cons, flatMap_one]; rfl
theorem fit_ints {zs : List AV} (h : Fit (.sl (.int .i64) 1) zs) : ∃ a : Option (List Int), zs = [eI a] := by
  rcases fit_rows (f := fun n : Int => [AV.int .i64 n]) (fun xs hx => by obtain ⟨n, hn, _⟩ := fit_int hx; exact ⟨n, hn⟩) h with rfl | ⟨l, rfl⟩
  · exact ⟨none, rfl⟩
  · exact ⟨some l, by rw [flatMap_one]; rfl⟩

def shPeeled : Sh := .st [.int .i64, .int .i64, .sl (.int .i64) 1]
theorem fit_peeled {zs : List AV} (h : Fit shPeeled zs) : ∃ p, zs = cP p := by
  obtain ⟨x1, y1, rfl, h1, h⟩ := fits_cons (fit_st h)
  obtain ⟨x2, y2, rfl, h2, h⟩ := fits_cons h
  obtain ⟨x3, y3, rfl, h3, h⟩ := fits_cons h
  obtain rfl := fits_nil h
  obtain ⟨n, rfl, _⟩ := fit_int h1
  obtain ⟨m, rfl, _⟩ := fit_int h2
  obtain ⟨a, rfl⟩ := fit_ints h3
  exact ⟨⟨n, m, a⟩, rfl⟩
theorem fit_peeleds {zs : List AV} (h : Fit (.sl shPeeled 3) zs) : ∃ a : Option (List Pd), zs = [ePS a] := by
  rcases fit_rows (fun xs hx => fit_peeled hx) h with rfl | ⟨l, rfl⟩
  · exact ⟨none, rfl⟩
  · exact ⟨some l, rfl⟩
def shSharded : Sh := .st [.int .i64, .sl shPeeled 3, .sl (.int .i64) 1]
theorem fit_sharded {zs : List AV} (h : Fit shSharded zs) : ∃ s, argOf shSharded zs = eSh s := by
  obtain ⟨x1, y1, rfl, h1, h⟩ := fits_cons (fit_st h)
  obtain ⟨x2, y2, rfl, h2, h⟩ := fits_cons h
  obtain ⟨x3, y3, rfl, h3, h⟩ := fits_cons h
  obtain rfl := fits_nil h
  obtain ⟨n, rfl, _⟩ := fit_int h1
  obtain ⟨m, rfl⟩ := fit_peeleds h2
  obtain ⟨a, rfl⟩ := fit_ints h3
  exact ⟨⟨n, m, a⟩, rfl⟩

def mkB (k : Int) : List Bt → List Bt
  | [] => []
  | b :: l => ⟨k, mkI (k + 1) b.words⟩ :: mkB (k + 1 + (lI b.words).length) l
def offB (l : List Bt) : Nat := (l.map fun b => 1 + (lI b.words).length).sum
theorem mkB_len : ∀ {k : Int} {l : List Bt}, (mkB k l).length = l.length
  | _, [] => rfl
  | _, b :: l => by simp [mkB, mkB_len]
theorem mkB_app : ∀ {k : Int} {l : List Bt} {b : Bt}, mkB k (l ++ [b]) = mkB k l ++ [⟨k + offB l, mkI (k + offB l + 1) b.words⟩]
  | k, [], b => by simp [mkB, offB]
  | k, a :: l, b => by
    rw [List.cons_append, mkB, mkB_app, mkB, List.cons_append]
    have e : k + 1 + ((lI a.words).length : Int) + (offB l : Int) = k + (offB (a :: l) : Int) := by
      simp only [offB, List.map_cons, List.sum_cons]
      omega
    rw [e]
theorem offB_take {l : List Bt} {i : Nat} (hi : i < l.length) : offB (l.take (i + 1)) = offB (l.take i) + (1 + (lI (l.getD i default).words).length) := by
  unfold offB
  rw [List.map_take, List.map_take, sum_take_succ (by simpa using hi)]
  simp [hi]
theorem offB_le (l : List Bt) (i : Nat) : offB (l.take i) ≤ offB l := by
  unfold offB
  rw [List.map_take]
  exact sum_take_le _ i
def mkU (k : Int) (l : List Bt) (i : Nat) : List Bt := mkB k (l.take i) ++ l.drop i
theorem mkU_len {k : Int} {l : List Bt} {i : Nat} : (mkU k l i).length = l.length := by
  simp [mkU, mkB_len]
  omega
theorem mkU_get {k : Int} {l : List Bt} {i : Nat} (hi : i < l.length) : (mkU k l i).getD i default = l.getD i default := by
  unfold mkU
  have h1 : (mkB k (l.take i)).length = i := by
    rw [mkB_len, List.length_take]
    omega
  rw [List.getD_eq_getElem?_getD, List.getElem?_append_right (by omega), h1, Nat.sub_self, List.getElem?_drop]
  simp
theorem mkU_succ {k : Int} {l : List Bt} {i : Nat} (hi : i < l.length) : mkU k l (i + 1) = (mkU k l i).set i ⟨k + offB (l.take i), mkI (k + offB (l.take i) + 1) (l.getD i default).words⟩ := by
  have h1 : (mkB k (l.take i)).length = i := by
    rw [mkB_len, List.length_take]
    omega
  have ht : l.take (i + 1) = l.take i ++ [l.getD i default] := by
    rw [List.take_add_one]
    simp [hi]
  have hd : l.drop i = l.getD i default :: l.drop (i + 1) := by
    rw [List.drop_eq_getElem_cons hi]
    simp [hi]
  unfold mkU
  rw [ht, mkB_app, hd, List.set_append_right _ _ (by omega), h1, Nat.sub_self]
  simp
theorem flatB_set : ∀ {L : List Bt} {i : Nat} {z : Int} {w : Option (List Int)}, i < L.length → ((L.flatMap cB).set (i * 2) (.int .i64 z)).set (i * 2 + 1) (eI w) = (L.set i ⟨z, w⟩).flatMap cB
  | [], i, z, w, hi => by simp at hi
  | p :: L, 0, z, w, _ => by simp [cB]
  | p :: L, i + 1, z, w, hi => by
    have ih := flatB_set (L := L) (i := i) (z := z) (w := w) (by simpa using hi)
    have e2 : (i + 1) * 2 = 2 + i * 2 := by omega
    have e3 : 2 + i * 2 + 1 = 2 + (i * 2 + 1) := by omega
    rw [List.flatMap_cons, e2, e3, List.set_append_right _ _ (by rw [cB_len]; omega), List.set_append_right _ _ (by rw [cB_len]; omega), cB_len, Nat.add_sub_cancel_left, Nat.add_sub_cancel_left, ih]
    simp
theorem flatB_one {L : List Bt} : (L.flatMap cB).all one = true := by
  rw [List.all_eq_true]
  intro c hc
  obtain ⟨p, _, hp⟩ := List.mem_flatMap.1 hc
  simp only [cB, List.mem_cons, List.not_mem_nil, or_false] at hp
  rcases hp with rfl | rfl
  · rfl
  · exact one_eI

theorem ow_sys {h : H} {x : AV} {z : Int} {l : List Bt} {q : List Bool} {G : Nat → Prop} (ho : Ow h [x] [eSy ⟨z, some l, some q⟩] G) : ∃ b1 b2, x = .agg [.int .i64 z, .sl b1 0 2 l.length l.length, .sl b2 0 1 q.length q.length] := by
  obtain ⟨cs, rfl, h1⟩ := Ow.openAgg (show Ow h [x] [.agg [.int .i64 z, eBS (some l), eO (some q)]] G from ho)
  have hl : cs.length = 3 := h1.len.symm
  match cs, hl, h1 with
  | [x1, x2, x3], _, h1 =>
    obtain ⟨F, F', f1, f2, f3, f4⟩ := h1.uncons
    obtain ⟨A, B, a1, a2, a3, a4⟩ := f2.uncons
    have e1 : x1 = .int .i64 z := f1.atomOf rfl
    obtain ⟨b1, e2⟩ := Ow.sl1 (show Ow h [x2] [.ro 2 _ _] A from a1)
    obtain ⟨b2, e3⟩ := Ow.sl1 (show Ow h [x3] [.ro 1 _ _] B from a2)
    subst e1 e2 e3
    exact ⟨b1, b2, rfl⟩
theorem ow_ints {h : H} {x : AV} {a : Option (List Int)} {G : Nat → Prop} (ho : Ow h [x] [eI a] G) : one x = true ∧ cellsOf x = [x] := by
  cases a with
  | none => have : x = .nils := ho.atomOf rfl; rw [this]; exact ⟨rfl, rfl⟩
  | some l => obtain ⟨b, e⟩ := Ow.sl1 (show Ow h [x] [.ro 1 _ _] G from ho); rw [e]; exact ⟨rfl, rfl⟩
theorem ow_tup2 {h : H} {x t1 : AV} {q : Bool} {G : Nat → Prop} (ho : Ow h [x] [.tup [t1, .bool q]] G) : ∃ y, x = .tup [y, .bool q] ∧ Ow h [y] [t1] G := by
  obtain ⟨cs, rfl, h1⟩ := ho.openTup
  have hl : cs.length = 2 := h1.len.symm
  match cs, hl, h1 with
  | [x1, x2], _, h1 =>
    obtain ⟨F, F', f1, f2, f3, f4⟩ := h1.uncons
    have e2 : x2 = .bool q := f2.atomOf rfl
    subst e2
    exact ⟨x1, rfl, f1.mono f3⟩
theorem offB_cp {s : Sy} : offB (lB (cpSy s).rows) + (lO (cpSy s).right).length = wSy s := by
  unfold wSy wBS offB cpSy
  simp only [lB, lO, List.map_map]
  have : ∀ l : List Bt, (l.map ((fun b : Bt => 1 + (lI b.words).length) ∘ cpB)).sum = l.length + (l.map fun p => (lI p.words).length).sum := fun l => by
    induction l with
    | nil => rfl
    | cons a l ih =>
      simp only [List.map_cons, List.sum_cons, List.length_cons, ih, Function.comp]
      have : (lI (cpB a).words).length = (lI a.words).length := rfl
      omega
  rw [this]

theorem ow_tup3 {h : H} {x t1 : AV} {n : Int} {q : Bool} {G : Nat → Prop} (ho : Ow h [x] [.tup [.int .i64 n, t1, .bool q]] G) : ∃ y, x = .tup [.int .i64 n, y, .bool q] ∧ Ow h [y] [t1] G := by
  obtain ⟨cs, rfl, h1⟩ := ho.openTup
  have hl : cs.length = 3 := h1.len.symm
  match cs, hl, h1 with
  | [x0, x1, x2], _, h1 =>
    obtain ⟨F, F', f1, f2, f3, f4⟩ := h1.uncons
    have e0 : x0 = .int .i64 n := f1.atomOf rfl
    obtain ⟨A, B, a1, a2, a3, a4⟩ := f2.uncons
    have e2 : x2 = .bool q := a2.atomOf rfl
    subst e0 e2
    exact ⟨x1, rfl, a1.mono fun c hc => (f4 c (a3 c hc)).1⟩

def sh_FnExactTableRefusal : List Sh := [.int .i64, .sl .str 1, .sl (.int .i64) 1, .int .i64, .int .i64]
set_option maxHeartbeats 1000000 in
theorem law_FnExactTableRefusal (ys : List AV) (hy : ArgsFit sh_FnExactTableRefusal ys) : Call Try.prog 3 ys [] Nowhere (fun x _ => x = .bool true) := by
  obtain ⟨x1, y1, rfl, h1, hy⟩ := argsFit_cons hy
  obtain ⟨x2, y2, rfl, h2, hy⟩ := argsFit_cons hy
  obtain ⟨x3, y3, rfl, h3, hy⟩ := argsFit_cons hy
  obtain ⟨x4, y4, rfl, h4, hy⟩ := argsFit_cons hy
  obtain ⟨x5, y5, rfl, h5, hy⟩ := argsFit_cons hy
  obtain rfl := argsFit_nil hy
  obtain ⟨seed, rfl, _, _⟩ := fit_int h1
  obtain ⟨keys, rfl⟩ := fit_strs h2
  obtain ⟨vals, rfl⟩ := fit_ints h3
  obtain ⟨seg, rfl, _, _⟩ := fit_int h4
  obtain ⟨width, rfl, _, _⟩ := fit_int h5
  refine (?_ : ∀ h, Call Try.prog 3 [.int .i64 seed, eS keys, eI vals, .int .i64 seg, .int .i64 width] h Nowhere (fun x _ => x = .bool true)) []
  intro h
  refine enter (by kernel_rfl) e3 (by kernel_rfl) rfl fun hok => ?_
  simp only [r3, initEnv_5]
  (try (simp (disch := first | omega | (simp <;> omega) | fail) only [push_cast, ↓reduceIte, Nat.reduceEqDiff, Nat.reduceAdd, Nat.reduceMul, Nat.reduceSub, Nat.reduceLT, Int.reduceToNat]))
  first | refine goC_split (fun hc => ?_) (fun hc => ?_) | refine cnd_split (fun hc => ?_) (fun hc => ?_)
  · (try (simp only [decide_eq_true_eq, decide_eq_false_iff_not, Bool.not_eq_true', Bool.not_eq_false', Bool.and_eq_true, Bool.or_eq_true, Int.not_lt, Int.not_le] at hc)); (try (simp (disch := first | omega | (simp <;> omega) | fail) only [push_cast, ↓reduceIte, Nat.reduceEqDiff, Nat.reduceAdd, Nat.reduceMul, Nat.reduceSub, Nat.reduceLT, Int.reduceToNat]))
  (try (simp only [decide_eq_true_eq, decide_eq_false_iff_not, Bool.not_eq_true', Bool.not_eq_false', Bool.and_eq_true, Bool.or_eq_true, Int.not_lt, Int.not_le] at hc)); (try (simp (disch := first | omega | (simp <;> omega) | fail) only [push_cast, ↓reduceIte, Nat.reduceEqDiff, Nat.reduceAdd, Nat.reduceMul, Nat.reduceSub, Nat.reduceLT, Int.reduceToNat]))
  refine (c_laws_szStringS keys 1048576 (by omega) (by omega)).call ?_
  (try (simp (disch := first | omega | (simp <;> omega) | fail) only [push_cast, ↓reduceIte, Nat.reduceEqDiff, Nat.reduceAdd, Nat.reduceMul, Nat.reduceSub, Nat.reduceLT, Int.reduceToNat]))
  first | refine goC_split (fun hd => ?_) (fun hd => ?_) | refine cnd_split (fun hd => ?_) (fun hd => ?_)
  · (try (simp only [decide_eq_true_eq, decide_eq_false_iff_not, Bool.not_eq_true', Bool.not_eq_false', Bool.and_eq_true, Bool.or_eq_true, Int.not_lt, Int.not_le] at hd)); (try (simp (disch := first | omega | (simp <;> omega) | fail) only [push_cast, ↓reduceIte, Nat.reduceEqDiff, Nat.reduceAdd, Nat.reduceMul, Nat.reduceSub, Nat.reduceLT, Int.reduceToNat]))
  (try (simp only [decide_eq_true_eq, decide_eq_false_iff_not, Bool.not_eq_true', Bool.not_eq_false', Bool.and_eq_true, Bool.or_eq_true, Int.not_lt, Int.not_le] at hd)); (try (simp (disch := first | omega | (simp <;> omega) | fail) only [push_cast, ↓reduceIte, Nat.reduceEqDiff, Nat.reduceAdd, Nat.reduceMul, Nat.reduceSub, Nat.reduceLT, Int.reduceToNat]))
  have hw3 := szv_ok hd
  have hl : (lS keys).length ≤ 1048576 := by unfold wS at hw3; omega
  have hl2 : (lI vals).length ≤ 1048576 := by omega
  clear hc hd hw3
  refine (c_laws_toStringS keys hl).call ?_
  (try (simp (disch := first | omega | (simp <;> omega) | fail) only [push_cast, ↓reduceIte, Nat.reduceEqDiff, Nat.reduceAdd, Nat.reduceMul, Nat.reduceSub, Nat.reduceLT, Int.reduceToNat]))
  refine (c_laws_toIntS vals hl2).call ?_
  (try (simp (disch := first | omega | (simp <;> omega) | fail) only [push_cast, ↓reduceIte, Nat.reduceEqDiff, Nat.reduceAdd, Nat.reduceMul, Nat.reduceSub, Nat.reduceLT, Int.reduceToNat]))
  refine (c_spec_TableRefusal seed seg width (some (lS keys)) (some (lI vals))).call ?_
  obtain ⟨n, a, q, hv, hal⟩ := tabRefV_tup seed seg width (some (lS keys)) (some (lI vals))
  have himpl := c_impl_TableRefusal_o seed seg width (some (lS keys)) (some (lI vals))
  rw [hv] at himpl ⊢
  clear hv
  (try (simp (disch := first | omega | (simp <;> omega) | fail) only [push_cast, ↓reduceIte, Nat.reduceEqDiff, Nat.reduceAdd, Nat.reduceMul, Nat.reduceSub, Nat.reduceLT, Int.reduceToNat]))
  refine (c_laws_toStringS_o keys hl).go fun x t g1 hR hx1 how1 => ?_
  subst hR
  obtain ⟨b1, rfl⟩ := Ow.sl1 (show Ow g1 [x] [.ro 1 _ _] _ from how1)
  (try (simp (disch := first | omega | (simp <;> omega) | fail) only [push_cast, ↓reduceIte, Nat.reduceEqDiff, Nat.reduceAdd, Nat.reduceMul, Nat.reduceSub, Nat.reduceLT, Int.reduceToNat]))
  refine (c_laws_toIntS_o vals hl2).go fun x t g2 hR hx2 how2 => ?_
  subst hR
  obtain ⟨b2, rfl⟩ := Ow.sl1 (show Ow g2 [x] [.ro 1 _ _] _ from how2)
  have how1 := hx2.ow how1
  have l1 := hx1.len
  have l2 := hx2.len
  (try (simp (disch := first | omega | (simp <;> omega) | fail) only [push_cast, ↓reduceIte, Nat.reduceEqDiff, Nat.reduceAdd, Nat.reduceMul, Nat.reduceSub, Nat.reduceLT, Int.reduceToNat]))
  refine himpl.goL (.free free_int (.cons how1.vw0 (.cons how2.vw0 (.free free_int (.free free_int .nil))))) fun y t g3 hR hx3 how3' => ?_
  subst hR
  obtain ⟨g0, rfl, how3⟩ := ow_tup3 how3'
  have og := ow_ints how3
  have l3 := hx3.len
  have how1 := hx3.ow2 how1 (by omega)
  have how2 := hx3.ow how2
  have heqI : Fn Try.prog 12 [eI a, eI a] (· = .bool true) := by
    have := c_laws_eqIntS a a
    simpa using this
  have heqV : Fn Try.prog 12 [eI (some (lI vals)), eI (some (lI vals))] (· = .bool true) := by
    have := c_laws_eqIntS (some (lI vals)) (some (lI vals))
    simpa using this
  have heqS : Fn Try.prog 13 [eS (some (lS keys)), eS (some (lS keys))] (· = .bool true) := by
    have := c_laws_eqStringS (some (lS keys)) (some (lS keys))
    simpa using this
  (try (simp (disch := first | omega | (simp <;> omega) | fail) only [push_cast, ↓reduceIte, Nat.reduceEqDiff, Nat.reduceAdd, Nat.reduceMul, Nat.reduceSub, Nat.reduceLT, Int.reduceToNat]))
  refine heqI.lendL (.cons how3.vw0 (.free free_eI .nil)) own_bool ?_
  (try (simp (disch := first | omega | (simp <;> omega) | fail) only [push_cast, ↓reduceIte, Nat.reduceEqDiff, Nat.reduceAdd, Nat.reduceMul, Nat.reduceSub, Nat.reduceLT, Int.reduceToNat]))
  refine (c_laws_toStringS keys hl).call ?_
  (try (simp (disch := first | omega | (simp <;> omega) | fail) only [push_cast, ↓reduceIte, Nat.reduceEqDiff, Nat.reduceAdd, Nat.reduceMul, Nat.reduceSub, Nat.reduceLT, Int.reduceToNat]))
  refine heqS.lendL (.cons how1.vw0 (.free free_eS .nil)) own_bool ?_
  (try (simp (disch := first | omega | (simp <;> omega) | fail) only [push_cast, ↓reduceIte, Nat.reduceEqDiff, Nat.reduceAdd, Nat.reduceMul, Nat.reduceSub, Nat.reduceLT, Int.reduceToNat]))
  refine (c_laws_toIntS vals hl2).call ?_
  (try (simp (disch := first | omega | (simp <;> omega) | fail) only [push_cast, ↓reduceIte, Nat.reduceEqDiff, Nat.reduceAdd, Nat.reduceMul, Nat.reduceSub, Nat.reduceLT, Int.reduceToNat]))
  refine heqV.lendL (.cons how2.vw0 (.free free_eI .nil)) own_bool ?_
  (try (simp (disch := first | omega | (simp <;> omega) | fail) only [push_cast, ↓reduceIte, Nat.reduceEqDiff, Nat.reduceAdd, Nat.reduceMul, Nat.reduceSub, Nat.reduceLT, Int.reduceToNat]))
  refine (c_laws_markStringS_ow _ (lS keys) _ 1 _ how1 (by omega) (by omega)).mono (fun x g4 hx => ?_) (fun c _ hc => Or.inr (by have := hc.1; omega))
  obtain ⟨rfl, hk1⟩ := hx
  have how2 := hk1.ow how2 fun c hc hd => by have := hc.1; have := hd.2; omega
  have how3 := hk1.ow how3 fun c hc hd => by have := hc.1; have := hd.2; omega
  (try (simp (disch := first | omega | (simp <;> omega) | fail) only [push_cast, ↓reduceIte, Nat.reduceEqDiff, Nat.reduceAdd, Nat.reduceMul, Nat.reduceSub, Nat.reduceLT, Int.reduceToNat]))
  refine (c_laws_markIntS _ (some (lI vals)) _ _ _ how2 (by omega) (show (1 : Int) + ((lS keys).length : Int) + ((lI vals).length : Int) ≤ 100000000 by omega)).mono (fun x g5 hx => ?_) (fun c _ hc => Or.inr (by have := hc.1; omega))
  obtain ⟨rfl, hk2, _⟩ := hx
  have how3 := hk2.ow how3 fun c hc hd => by have := hc.1; have := hd.2; omega
  have hll : (lI (some (lI vals))).length = (lI vals).length := rfl
  rw [hll]
  (try (simp (disch := first | omega | (simp <;> omega) | fail) only [push_cast, ↓reduceIte, Nat.reduceEqDiff, Nat.reduceAdd, Nat.reduceMul, Nat.reduceSub, Nat.reduceLT, Int.reduceToNat]))
  refine heqI.lendL (.cons how3.vw0 (.free free_eI .nil)) own_bool ?_
  (try (simp (disch := first | omega | (simp <;> omega) | fail) only [push_cast, ↓reduceIte, Nat.reduceEqDiff, Nat.reduceAdd, Nat.reduceMul, Nat.reduceSub, Nat.reduceLT, Int.reduceToNat]))
  refine (c_laws_markIntS g0 a _ 1 _ how3 (by omega) (by omega)).mono (fun x g6 hx => ?_) (fun c _ hc => Or.inr (by have := hc.1; omega))
  obtain ⟨rfl, hk3, how5⟩ := hx
  (try (simp (disch := first | omega | (simp <;> omega) | fail) only [push_cast, ↓reduceIte, Nat.reduceEqDiff, Nat.reduceAdd, Nat.reduceMul, Nat.reduceSub, Nat.reduceLT, Int.reduceToNat]))
  refine (c_laws_heldIntS (mkI 1 a) 1 (lI a).length lI_mkI (by omega) (by omega)).lendL (.cons how5.vw0 (.free free_int .nil)) own_int ?_
  (try (simp (disch := first | omega | (simp <;> omega) | fail) only [push_cast, ↓reduceIte, Nat.reduceEqDiff, Nat.reduceAdd, Nat.reduceMul, Nat.reduceSub, Nat.reduceLT, Int.reduceToNat]))
  refine (c_laws_toStringS keys hl).call ?_
  (try (simp (disch := first | omega | (simp <;> omega) | fail) only [push_cast, ↓reduceIte, Nat.reduceEqDiff, Nat.reduceAdd, Nat.reduceMul, Nat.reduceSub, Nat.reduceLT, Int.reduceToNat]))
  refine (c_laws_toIntS vals hl2).call ?_
  (try (simp (disch := first | omega | (simp <;> omega) | fail) only [push_cast, ↓reduceIte, Nat.reduceEqDiff, Nat.reduceAdd, Nat.reduceMul, Nat.reduceSub, Nat.reduceLT, Int.reduceToNat]))
  refine himpl.fn.call ?_
  (try (simp (disch := first | omega | (simp <;> omega) | fail) only [push_cast, ↓reduceIte, Nat.reduceEqDiff, Nat.reduceAdd, Nat.reduceMul, Nat.reduceSub, Nat.reduceLT, Int.reduceToNat]))
  refine heqI.call ?_
  (try (simp (disch := first | omega | (simp <;> omega) | fail) only [push_cast, ↓reduceIte, Nat.reduceEqDiff, Nat.reduceAdd, Nat.reduceMul, Nat.reduceSub, Nat.reduceLT, Int.reduceToNat]))
  refine (c_laws_heldIntS (mkI 1 a) 1 (lI a).length lI_mkI (by omega) (by omega)).lendL (.cons how5.vw0 (.free free_int .nil)) own_int ?_
  (try (simp (disch := first | omega | (simp <;> omega) | fail) only [push_cast, ↓reduceIte, Nat.reduceEqDiff, Nat.reduceAdd, Nat.reduceMul, Nat.reduceSub, Nat.reduceLT, Int.reduceToNat]))

end Go.Proofs.Ytjfgmimgmapeeaa.M
