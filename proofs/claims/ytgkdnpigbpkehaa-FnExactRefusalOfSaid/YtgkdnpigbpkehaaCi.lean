/-
  What the functions return.
-/
import Derived.Test.YtgkdnpigbpkehaaFi
import Derived.Test.YtgkdnpigbpkehaaCb
namespace Go.Proofs.Ytgkdnpigbpkehaa.M
open Go Go.RowKit
set_option linter.unusedVariables false
set_option linter.unusedSimpArgs false
set_option maxRecDepth 4000

theorem OkE.nn {s : Sy} {n m : Nat} (ho : OkE s n m) : s.size.toNat = n := by
  rw [ho.sz]
  rfl
def nSy (s : Sy) : Nat := s.size.toNat
def linS (s : Sy) : List Nat := (stS s (nSy s) (lB s.rows).length).1
def linI (s : Sy) : List Nat := (stI s (nSy s) (lB s.rows).length).1
def refN (s : Sy) : Nat := (stS s (nSy s) (lB s.rows).length).2
theorem lin_sim (s : Sy) : Sim (nSy s) (stS s (nSy s) (lB s.rows).length) (stI s (nSy s) (lB s.rows).length) := stI_sim
theorem okE_n {s : Sy} (h : okSy s = true) : ∃ m, OkE s (nSy s) m := by
  obtain ⟨n, m, ho⟩ := okE_of h
  have := ho.nn
  unfold nSy
  rw [this]
  exact ⟨m, ho⟩
def rankV (s : Sy) : AV := if okSy s then .tup [.int .i64 (linS s).length, .bool true] else .tup [.int .i64 0, .bool false]
theorem rankV_tup (s : Sy) : ∃ n b, rankV s = .tup [.int .i64 n, .bool b] := by
  unfold rankV
  split <;> exact ⟨_, _, rfl⟩
theorem free_rankV {s : Sy} : Free (rankV s) := by
  obtain ⟨n, b, h⟩ := rankV_tup s
  rw [h]
  exact free_tup (free_cons_ free_int (free_cons_ free_bool free_nil_))

theorem at_bit64 {x j : Nat} (hx : x < 18446744073709551616) (hj : j < 64) : decide (bitsI .and .u64 (Int.fdiv (x : Int) (2 ^ (min j IntKind.u64.bits))) 1 = 1) = x.testBit j := by
  have h1 : min j IntKind.u64.bits = j := by
    simp [IntKind.bits]
    omega
  have h2 : Int.fdiv (x : Int) (2 ^ j) = ((x >>> j : Nat) : Int) := by
    rw [Nat.shiftRight_eq_div_pow]
    have : ((2 : Int) ^ j) = ((2 ^ j : Nat) : Int) := by simp
    rw [this]
    exact (Int.ofNat_fdiv x (2 ^ j)).symm
  have h3 : x >>> j ≤ x := Nat.shiftRight_le x j
  have h4 : bitsI .and .u64 ((x >>> j : Nat) : Int) ((1 : Nat) : Int) = ((x >>> j &&& 1 : Nat) : Int) := by
    have h5 : x >>> j &&& 1 ≤ 1 := Nat.and_le_right
    show IntKind.u64.wrap ((BitVec.ofInt 64 ((x >>> j : Nat) : Int) &&& BitVec.ofInt 64 ((1 : Nat) : Int)).toNat : Int) = _
    rw [ofInt_nat, ofInt_nat, BitVec.toNat_and, BitVec.toNat_ofNat, BitVec.toNat_ofNat, Nat.mod_eq_of_lt (by omega), Nat.mod_eq_of_lt (by omega)]
    exact u64_nat (by omega)
  rw [h1, h2]
  rw [show ((1 : Nat) : Int) = 1 from rfl] at h4
  rw [h4, Nat.and_one_is_mod, Nat.testBit_eq_decide_div_mod_eq, Nat.shiftRight_eq_div_pow, decide_eq_decide]
  omega
def setTo (M i : Nat) : List Int := ((List.range i).filter fun j => M.testBit j).map fun j : Nat => (j : Int)
theorem setTo_all {M : Nat} : setTo M 64 = setL M := rfl
theorem setTo_succ {M i : Nat} : setTo M (i + 1) = if M.testBit i = true then setTo M i ++ [(i : Int)] else setTo M i := by
  unfold setTo
  rw [List.range_succ, List.filter_append, List.map_append]
  cases h : M.testBit i <;> simp [h]
theorem setTo_len {M i : Nat} : (setTo M i).length ≤ i := by
  unfold setTo
  rw [List.length_map]
  exact Nat.le_trans (List.length_filter_le _ _) (by simp)

def refO (s : Sy) : Option (List Int) := if okSy s then optL (setL (ofN (nSy s) (refN s))) else none
def refOV (s : Sy) : AV := .tup [eI (refO s), .bool (decide (0 < (lI (refO s)).length))]
theorem free_refOV {s : Sy} : Free (refOV s) := free_tup (free_cons_ free_eI (free_cons_ free_bool free_nil_))
theorem refO_len {s : Sy} : (lI (refO s)).length ≤ 64 := by
  unfold refO
  split
  · rw [lI_optL]
    exact setL_len
  · simp [lI]
theorem refO_zero {s : Sy} {m : Nat} (ho : OkE s (nSy s) m) (hk : okSy s = true) : refN s = 0 ↔ refO s = none := by
  have h1 : (setL (ofN (nSy s) (refN s))).length = 0 ↔ refN s = 0 := (ho.msk (i := (lB s.rows).length) (Nat.le_refl _)).none (by have := ho.nr; omega)
  unfold refO
  rw [if_pos hk]
  unfold optL
  constructor
  · intro h0
    have := h1.2 h0
    rw [if_pos (List.eq_nil_of_length_eq_zero this)]
  · intro h0
    split at h0
    · rename_i hs
      refine h1.1 ?_
      rw [hs]
      rfl
    · cases h0

theorem c_spec_RefusalOf (s : Sy) : Fn Try.prog 26 [eSy s] (· = refOV s) := by
  refine Fn.of free_refOV fun h => ?_
  refine enter (by kernel_rfl) e26 (by kernel_rfl) rfl fun hok => ?_
  simp only [r26, initEnv_1]
  (try (simp (disch := first | omega | (simp <;> omega) | fail) only [push_cast, ↓reduceIte, Nat.reduceEqDiff, Nat.reduceAdd, Nat.reduceMul, Nat.reduceSub, Nat.reduceLT, Int.reduceToNat]))
  refine (c_spec_reGood s).call ?_
  unfold refOV refO
  cases hk : okSy s
  · (try (simp (disch := first | omega | (simp <;> omega) | fail) only [push_cast, ↓reduceIte, Nat.reduceEqDiff, Nat.reduceAdd, Nat.reduceMul, Nat.reduceSub, Nat.reduceLT, Int.reduceToNat]))
    all_goals (try rfl)
  obtain ⟨m, ho⟩ := okE_n hk
  (try (simp (disch := first | omega | (simp <;> omega) | fail) only [push_cast, ↓reduceIte, Nat.reduceEqDiff, Nat.reduceAdd, Nat.reduceMul, Nat.reduceSub, Nat.reduceLT, Int.reduceToNat]))
  refine (c_spec_reLines s _ m ho).call ?_
  unfold linesV ofN refN
  generalize optL _ = a
  have hgt : decide ((0 : Int) < ((lI a).length : Int)) = decide (0 < (lI a).length) := by rw [decide_eq_decide]; omega
  by_cases h0 : 0 < (lI a).length
  · have h2 : (0 : Int) < ((lI a).length : Int) := by omega
    (try (simp (disch := first | omega | (simp <;> omega) | fail) only [push_cast, ↓reduceIte, Nat.reduceEqDiff, Nat.reduceAdd, Nat.reduceMul, Nat.reduceSub, Nat.reduceLT, Int.reduceToNat, h2, h0]))
    all_goals (try simp [h0])
  · have h2 : ¬ (0 : Int) < ((lI a).length : Int) := by omega
    (try (simp (disch := first | omega | (simp <;> omega) | fail) only [push_cast, ↓reduceIte, Nat.reduceEqDiff, Nat.reduceAdd, Nat.reduceMul, Nat.reduceSub, Nat.reduceLT, Int.reduceToNat, h2, h0]))
    all_goals (try simp [h0])

theorem c_impl_indices_o (M : Nat) (hM : M < 18446744073709551616) : FnO Try.prog 73 [.int .u64 M] (· = eI (some (setL M))) := by
  intro h
  refine enter (by kernel_rfl) e73 (by kernel_rfl) rfl fun hok => ?_
  simp only [r73, initEnv_1]
  (try (simp (disch := first | omega | (simp <;> omega) | fail) only [push_cast, ↓reduceIte, Nat.reduceEqDiff, Nat.reduceAdd, Nat.reduceMul, Nat.reduceSub, Nat.reduceLT, Int.reduceToNat]))
  refine T_for 64 (fun i e h' => ∃ v B, Pins e [(0, .int .u64 M), (3, v), (6, .int .i64 i)] ∧ h.length ≤ h'.length ∧ S1 h' 1 v (setTo M i).length ((setTo M i).map (.int .i64)) B ∧ (∀ b ∈ B, h.length ≤ b) ∧ v ≠ .nils) ?_ ?_
  · (try (simp (disch := first | omega | (simp <;> omega) | fail) only [push_cast, ↓reduceIte, Nat.reduceEqDiff, Nat.reduceAdd, Nat.reduceMul, Nat.reduceSub, Nat.reduceLT, Int.reduceToNat]))
    all_goals (try exact ⟨_, [h.length], rfl, ⟨by simp [setTo], .inr ⟨h.length, rfl, rfl, by rw [cells_h0]; rfl⟩⟩, by simp, by simp⟩)
    all_goals (try exact ⟨_, [h.length], rfl, by simp, ⟨by simp [setTo], .inr ⟨h.length, rfl, rfl, by rw [cells_h0]; rfl⟩⟩, by simp, by simp⟩)
  rintro i e h' hi ⟨v, B, hp, hlt, hs, hB, hn⟩
  refine T_pins hp fun e => ?_
  have hsl := setTo_len (M := M) (i := i)
  (try (simp (disch := first | omega | (simp <;> omega) | fail) only [push_cast, ↓reduceIte, Nat.reduceEqDiff, Nat.reduceAdd, Nat.reduceMul, Nat.reduceSub, Nat.reduceLT, Int.reduceToNat]))
  first | refine goC_split (fun hc => ?_) (fun hc => ?_) | refine cnd_split (fun hc => ?_) (fun hc => ?_)
  · (try (simp only [decide_eq_true_eq, decide_eq_false_iff_not, Bool.not_eq_true', Bool.not_eq_false', Bool.and_eq_true, Bool.or_eq_true, Int.not_lt, Int.not_le] at hc)); (try (simp (disch := first | omega | (simp <;> omega) | fail) only [push_cast, ↓reduceIte, Nat.reduceEqDiff, Nat.reduceAdd, Nat.reduceMul, Nat.reduceSub, Nat.reduceLT, Int.reduceToNat]))
    have hi2 : i < 64 := by omega
    have hat := at_bit64 hM hi2
    have hsu := setTo_succ (M := M) (i := i)
    cases hb : M.testBit i
    · rw [hb] at hat
      rw [if_neg (by simp [hb])] at hsu
      (try (simp (disch := first | omega | (simp <;> omega) | fail) only [push_cast, ↓reduceIte, Nat.reduceEqDiff, Nat.reduceAdd, Nat.reduceMul, Nat.reduceSub, Nat.reduceLT, Int.reduceToNat, hat]))
      all_goals (try exact ⟨_, B, rfl, hlt, by rw [hsu]; exact hs, hB, hn⟩)
      all_goals (try exact ⟨_, B, rfl, by rw [hsu]; exact hs, hB, hn⟩)
    · rw [hb] at hat
      rw [if_pos hb] at hsu
      (try (simp (disch := first | omega | (simp <;> omega) | fail) only [push_cast, ↓reduceIte, Nat.reduceEqDiff, Nat.reduceAdd, Nat.reduceMul, Nat.reduceSub, Nat.reduceLT, Int.reduceToNat, hat]))
      refine (hs.frame (h' := h' ++ [some (.cells [.int .i64 (i : Int)])]) fun c hc => List.getElem?_append_left (hs.lt c hc)).app0 (new := [.int .i64 (i : Int)]) (k := 1) (by_ := 8) (fun b hb => Or.inr (hB b hb)) rfl (by omega) fun v2 h2 B2 c1 c2 c3 c4 c5 => ?_
      simp only [List.length_append, List.length_cons, List.length_nil] at c2
      have c1' : S1 h2 1 v2 (setTo M (i + 1)).length ((setTo M (i + 1)).map (.int .i64)) B2 := by
        rw [hsu]
        simpa using c1
      (try (simp (disch := first | omega | (simp <;> omega) | fail) only [push_cast, ↓reduceIte, Nat.reduceEqDiff, Nat.reduceAdd, Nat.reduceMul, Nat.reduceSub, Nat.reduceLT, Int.reduceToNat]))
      all_goals (try exact ⟨_, B2, rfl, c1', fun b hb => by rcases c4 b hb with h5 | h5; exact hB b h5; simp at h5; omega, c5 hn⟩)
      all_goals (try exact ⟨_, B2, rfl, by omega, c1', fun b hb => by rcases c4 b hb with h5 | h5; exact hB b h5; simp at h5; omega, c5 hn⟩)
  · (try (simp only [decide_eq_true_eq, decide_eq_false_iff_not, Bool.not_eq_true', Bool.not_eq_false', Bool.and_eq_true, Bool.or_eq_true, Int.not_lt, Int.not_le] at hc)); (try (simp (disch := first | omega | (simp <;> omega) | fail) only [push_cast, ↓reduceIte, Nat.reduceEqDiff, Nat.reduceAdd, Nat.reduceMul, Nat.reduceSub, Nat.reduceLT, Int.reduceToNat]))
    have hie : i = 64 := by omega
    subst hie
    (try (simp (disch := first | omega | (simp <;> omega) | fail) only [push_cast, ↓reduceIte, Nat.reduceEqDiff, Nat.reduceAdd, Nat.reduceMul, Nat.reduceSub, Nat.reduceLT, Int.reduceToNat]))
    refine ⟨_, hs.ow (fun _ => rfl) hB hn, ?_⟩
    rw [setTo_all]
    rfl

theorem c_impl_RefusalOf_o (s : Sy) : FnO Try.prog 27 [eSy s] (· = refOV s) := by
  intro h
  refine enter (by kernel_rfl) e27 (by kernel_rfl) rfl fun hok => ?_
  simp only [r27, initEnv_1]
  (try (simp (disch := first | omega | (simp <;> omega) | fail) only [push_cast, ↓reduceIte, Nat.reduceEqDiff, Nat.reduceAdd, Nat.reduceMul, Nat.reduceSub, Nat.reduceLT, Int.reduceToNat]))
  refine (c_impl_IsSystem s).call ?_
  have hnone : refO s = none → ∀ g : H, ∃ t, Ow g [.tup [.nils, .bool false]] [t] (fun c => h.length ≤ c) ∧ t = refOV s := fun h0 g => by
    unfold refOV
    rw [h0]
    exact ⟨_, (Ow.atom rfl (.atom rfl .nil)).tupOf, rfl⟩
  cases hk : okSy s
  · have h0 : refO s = none := by unfold refO; rw [hk]; rfl
    (try (simp (disch := first | omega | (simp <;> omega) | fail) only [push_cast, ↓reduceIte, Nat.reduceEqDiff, Nat.reduceAdd, Nat.reduceMul, Nat.reduceSub, Nat.reduceLT, Int.reduceToNat]))
    all_goals (try exact hnone h0 _)
  obtain ⟨m, ho⟩ := okE_n hk
  (try (simp (disch := first | omega | (simp <;> omega) | fail) only [push_cast, ↓reduceIte, Nat.reduceEqDiff, Nat.reduceAdd, Nat.reduceMul, Nat.reduceSub, Nat.reduceLT, Int.reduceToNat]))
  refine (c_impl_reduced s _ m ho).use ?_
  rintro x ⟨L, hp, rfl⟩
  have hr : (stI s (nSy s) (lB s.rows).length).2 = refN s := (lin_sim s).ref.symm
  have hmsk := (ho.msk (i := (lB s.rows).length) (Nat.le_refl _)).shr
  have hz := refO_zero ho hk
  rw [hr]
  have hlt : ofN (nSy s) (refN s) < 18446744073709551616 := by
    rw [← hr]
    exact shr_lt (ho.bnd2 (Nat.le_refl _))
  by_cases h0 : refN s = 0
  · have h1 : ((ofN (nSy s) (refN s) : Nat) : Int) = 0 := by
      have := hmsk.2 h0
      unfold refN at *
      rw [this]
      rfl
    (try (simp (disch := first | omega | (simp <;> omega) | fail) only [push_cast, ↓reduceIte, Nat.reduceEqDiff, Nat.reduceAdd, Nat.reduceMul, Nat.reduceSub, Nat.reduceLT, Int.reduceToNat, h1]))
    all_goals (try exact hnone (hz.1 h0) _)
  · have h1 : ¬ ((ofN (nSy s) (refN s) : Nat) : Int) = 0 := fun h5 => h0 (hmsk.1 (by unfold refN at h5; omega))
    (try (simp (disch := first | omega | (simp <;> omega) | fail) only [push_cast, ↓reduceIte, Nat.reduceEqDiff, Nat.reduceAdd, Nat.reduceMul, Nat.reduceSub, Nat.reduceLT, Int.reduceToNat, h1]))
    refine (c_impl_indices_o _ hlt).use fun x t l hR how => ?_
    subst hR
    have hne : refO s ≠ none := fun h5 => h0 (hz.2 h5)
    have hro : refO s = some (setL (ofN (nSy s) (refN s))) := by
      unfold refO at hne ⊢
      rw [if_pos hk] at hne ⊢
      unfold optL at hne ⊢
      split
      · rename_i h5
        rw [if_pos h5] at hne
        exact absurd rfl hne
      · rfl
    have hpos : 0 < (setL (ofN (nSy s) (refN s))).length := by
      unfold refO optL at hne
      rw [if_pos hk] at hne
      split at hne
      · exact absurd rfl hne
      · rename_i h5
        exact List.length_pos_iff.2 h5
    rw [List.append_assoc] at how
    (try (simp (disch := first | omega | (simp <;> omega) | fail) only [push_cast, ↓reduceIte, Nat.reduceEqDiff, Nat.reduceAdd, Nat.reduceMul, Nat.reduceSub, Nat.reduceLT, Int.reduceToNat]))
    refine ⟨_, (Ow.two (F := fun c => h.length ≤ c) (F' := fun _ => False) (how.mono fun c hc => ?_) (.atom rfl .nil) (fun c hc => hc) (fun _ h => h.elim)).tupOf, ?_⟩
    · have := hc.1
      simp at this
      omega
    · unfold refOV
      rw [hro]
      simp [lI, hpos]

theorem fits_cons {s : Sh} {ss : List Sh} {zs : List AV} (h : Fits (s :: ss) zs) : ∃ xs ys, zs = xs ++ ys ∧ Fit s xs ∧ Fits ss ys := by
  cases h with
  | cons h hr => exact ⟨_, _, rfl, h, hr⟩
theorem fits_nil {zs : List AV} (h : Fits [] zs) : zs = [] := by cases h; rfl
theorem fit_int {zs : List AV} (h : Fit (.int .i64) zs) : ∃ n : Int, zs = [.int .i64 n] ∧ -9223372036854775808 ≤ n ∧ n ≤ 9223372036854775807 := by
  cases h with
  | int h1 h2 => exact ⟨_, rfl, by simpa [IntKind.min, IntKind.signed, IntKind.bits] using h1, by simpa [IntKind.max, IntKind.signed, IntKind.bits] using h2⟩
theorem fit_str {zs : List AV} (h : Fit .str zs) : ∃ s : Str, zs = [.str s] ∧ s.length ≤ 9223372036854775807 := by
  cases h with
  | str h => exact ⟨_, rfl, h⟩
theorem fit_st {fs : List Sh} {zs : List AV} (h : Fit (.st fs) zs) : Fits fs zs := by
  cases h with
  | st h => exact h
theorem flatMap_eq {α β : Type} {f g : α → List β} : ∀ {l : List α}, (∀ a ∈ l, f a = g a) → l.flatMap f = l.flatMap g
  | [], _ => rfl
  | a :: l, h => by
    rw [List.flatMap_cons, List.flatMap_cons, h a (by simp), flatMap_eq fun b hb => h b (by simp [hb])]
theorem fit_strs {zs : List AV} (h : Fit (.sl .str 1) zs) : ∃ a : Option (List Str), zs = [eS a] := by
  cases h with
  | nil => exact ⟨none, rfl⟩
  | @sl _ _ n g hm hl h =>
    have hg : ∀ i, ∃ s : Str, i < n → g i = [.str s] := fun i => by
      by_cases hi : i < n
      · obtain ⟨s, hs, _⟩ := fit_str (h i hi)
        exact ⟨s, fun _ => hs⟩
      · exact ⟨[], fun h => absurd h hi⟩
    refine ⟨some ((List.range n).map fun i => Classical.choose (hg i)), ?_⟩
    simp only [eS, List.length_map, List.length_range, List.map_map]
    congr 2
    rw [← List.flatMap_singleton' ((List.range n).map _), List.flatMap_map]
    refine flatMap_eq fun i hi => ?_
    rw [Classical.choose_spec (hg i) (List.mem_range.1 hi)]
    rfl
theorem argsFit_cons {s : Sh} {ss : List Sh} {zs : List AV} (h : ArgsFit (s :: ss) zs) : ∃ xs ys, zs = argOf s xs :: ys ∧ Fit s xs ∧ ArgsFit ss ys := by
  cases h with
  | cons h hr => exact ⟨_, _, rfl, h, hr⟩
theorem argsFit_nil {zs : List AV} (h : ArgsFit [] zs) : zs = [] := by cases h; rfl

theorem fit_rows {α : Type} [Inhabited α] {s : Sh} {w : Nat} {f : α → List AV} (hf : ∀ xs, Fit s xs → ∃ a, xs = f a) {zs : List AV} (h : Fit (.sl s w) zs) : zs = [.nils] ∨ ∃ l : List α, zs = [.ro w (l.flatMap f) l.length] := by
  cases h with
  | nil => exact .inl rfl
  | @sl _ _ n g hm hl h =>
    have hg : ∀ i, ∃ a : α, i < n → g i = f a := fun i => by
      by_cases hi : i < n
      · obtain ⟨a, ha⟩ := hf _ (h i hi)
        exact ⟨a, fun _ => ha⟩
      · exact ⟨default, fun h => absurd h hi⟩
    refine .inr ⟨(List.range n).map fun i => Classical.choose (hg i), ?_⟩
    rw [List.length_map, List.length_range, List.flatMap_map]
    congr 2
    exact flatMap_eq fun i hi => Classical.choose_spec (hg i) (List.mem_range.1 hi)
theorem flatMap_one {α : Type} {f : α → AV} : ∀ {l : List α}, l.flatMap (fun a => [f a]) = l.map f
  | [] => rfl
  | a :: l => by rw [List.flatMap_cons, flatMap_one]; rfl
theorem fit_ints {zs : List AV} (h : Fit (.sl (.int .i64) 1) zs) : ∃ a : Option (List Int), zs = [eI a] := by
  rcases fit_rows (f := fun n : Int => [AV.int .i64 n]) (fun xs hx => by obtain ⟨n, hn, _⟩ := fit_int hx; exact ⟨n, hn⟩) h with rfl | ⟨l, rfl⟩
  · exact ⟨none, rfl⟩
  · exact ⟨some l, by rw [flatMap_one]; rfl⟩

def shBits2 : Sh := .st [.int .i64, .sl (.int .i64) 1]
theorem fit_cB {zs : List AV} (h : Fit shBits2 zs) : ∃ b, zs = cB b := by
  obtain ⟨x1, y1, rfl, h1, h⟩ := fits_cons (fit_st h)
  obtain ⟨x2, y2, rfl, h2, h⟩ := fits_cons h
  obtain rfl := fits_nil h
  obtain ⟨n, rfl, _⟩ := fit_int h1
  obtain ⟨a, rfl⟩ := fit_ints h2
  exact ⟨⟨n, a⟩, rfl⟩
theorem fit_bool {zs : List AV} (h : Fit .bool zs) : ∃ b : Bool, zs = [.bool b] := by
  cases h with
  | bool b => exact ⟨b, rfl⟩
theorem fit_bools {zs : List AV} (h : Fit (.sl .bool 1) zs) : ∃ a : Option (List Bool), zs = [eO a] := by
  rcases fit_rows (f := fun n : Bool => [AV.bool n]) (fun xs hx => by obtain ⟨n, hn⟩ := fit_bool hx; exact ⟨n, hn⟩) h with rfl | ⟨l, rfl⟩
  · exact ⟨none, rfl⟩
  · exact ⟨some l, by rw [flatMap_one]; rfl⟩
theorem fit_bitss {zs : List AV} (h : Fit (.sl shBits2 2) zs) : ∃ a : Option (List Bt), zs = [eBS a] := by
  rcases fit_rows (f := cB) (fun xs hx => fit_cB hx) h with rfl | ⟨l, rfl⟩
  · exact ⟨none, rfl⟩
  · exact ⟨some l, rfl⟩
def shSys : Sh := .st [.int .i64, .sl shBits2 2, .sl .bool 1]
theorem fit_sys {zs : List AV} (h : Fit shSys zs) : ∃ s, argOf shSys zs = eSy s := by
  obtain ⟨x1, y1, rfl, h1, h⟩ := fits_cons (fit_st h)
  obtain ⟨x2, y2, rfl, h2, h⟩ := fits_cons h
  obtain ⟨x3, y3, rfl, h3, h⟩ := fits_cons h
  obtain rfl := fits_nil h
  obtain ⟨n, rfl, _⟩ := fit_int h1
  obtain ⟨a, rfl⟩ := fit_bitss h2
  obtain ⟨b, rfl⟩ := fit_bools h3
  exact ⟨⟨n, a, b⟩, rfl⟩
theorem sameSy_cp {s : Sy} : (decide ((cpSy s).size = (cpSy s).size) && (sameBS (lB (cpSy s).rows) (lB (cpSy s).rows) && decide (lO (cpSy s).right = lO (cpSy s).right))) = true := by
  have h1 : sameBS (lB (cpSy s).rows) (lB (cpSy s).rows) = true := sameBS_cp _
  rw [h1]
  simp

theorem ow_sys {h : H} {x : AV} {z : Int} {l : List Bt} {q : List Bool} {G : Nat → Prop} (ho : Ow h [x] [eSy ⟨z, some l, some q⟩] G) : ∃ b1 b2, x = .agg [.int .i64 z, .sl b1 0 2 l.length l.length, .sl b2 0 1 q.length q.length] := by
  obtain ⟨cs, rfl, h1⟩ := Ow.openAgg (show Ow h [x] [.agg [.int .i64 z, eBS (some l), eO (some q)]] G from ho)
  have hl : cs.length = 3 := h1.len.symm
  match cs, hl, h1 with
  | [x1, x2, x3], _, h1 =>
    obtain ⟨F, F', f1, f2, f3, f4⟩ := h1.uncons
    obtain ⟨A, B, a1, a2, a3, a4⟩ := f2.uncons
    have e1 : x1 = .int .i64 z := f1.atomOf rfl
    obtain ⟨b1, e2⟩ := Ow.sl1 (show Ow h [x2] [.ro 2 _ _] A from a1)
    obtain ⟨b2, e3⟩ := Ow.sl1 (show Ow h [x3] [.ro 1 _ _] B from a2)
    subst e1 e2 e3
    exact ⟨b1, b2, rfl⟩
theorem ow_ints {h : H} {x : AV} {a : Option (List Int)} {G : Nat → Prop} (ho : Ow h [x] [eI a] G) : one x = true ∧ cellsOf x = [x] := by
  cases a with
  | none => have : x = .nils := ho.atomOf rfl; rw [this]; exact ⟨rfl, rfl⟩
  | some l => obtain ⟨b, e⟩ := Ow.sl1 (show Ow h [x] [.ro 1 _ _] G from ho); rw [e]; exact ⟨rfl, rfl⟩
theorem ow_tup2 {h : H} {x t1 : AV} {q : Bool} {G : Nat → Prop} (ho : Ow h [x] [.tup [t1, .bool q]] G) : ∃ y, x = .tup [y, .bool q] ∧ Ow h [y] [t1] G := by
  obtain ⟨cs, rfl, h1⟩ := ho.openTup
  have hl : cs.length = 2 := h1.len.symm
  match cs, hl, h1 with
  | [x1, x2], _, h1 =>
    obtain ⟨F, F', f1, f2, f3, f4⟩ := h1.uncons
    have e2 : x2 = .bool q := f2.atomOf rfl
    subst e2
    exact ⟨x1, rfl, f1.mono f3⟩
theorem offB_cp {s : Sy} : offB (lB (cpSy s).rows) + (lO (cpSy s).right).length = wSy s := by
  unfold wSy wBS offB cpSy
  simp only [lB, lO, List.map_map]
  have : ∀ l : List Bt, (l.map ((fun b : Bt => 1 + (lI b.words).length) ∘ cpB)).sum = l.length + (l.map fun p => (lI p.words).length).sum := fun l => by
    induction l with
    | nil => rfl
    | cons a l ih =>
      simp only [List.map_cons, List.sum_cons, List.length_cons, ih, Function.comp]
      have : (lI (cpB a).words).length = (lI a.words).length := rfl
      omega
  rw [this]

def sh_FnExactRefusalOf : List Sh := [shSys]
theorem law_FnExactRefusalOf (ys : List AV) (hy : ArgsFit sh_FnExactRefusalOf ys) : Call Try.prog 6 ys [] Nowhere (fun x _ => x = .bool true) := by
  obtain ⟨x1, y1, rfl, h1, hy⟩ := argsFit_cons hy
  obtain rfl := argsFit_nil hy
  obtain ⟨s, he⟩ := fit_sys h1
  rw [he]
  refine (?_ : ∀ h, Call Try.prog 6 [eSy s] h Nowhere (fun x _ => x = .bool true)) []
  intro h
  refine enter (by kernel_rfl) e6 (by kernel_rfl) rfl fun hok => ?_
  simp only [r6, initEnv_1]
  (try (simp (disch := first | omega | (simp <;> omega) | fail) only [push_cast, ↓reduceIte, Nat.reduceEqDiff, Nat.reduceAdd, Nat.reduceMul, Nat.reduceSub, Nat.reduceLT, Int.reduceToNat]))
  refine (c_laws_szSystem s 1048576 (by omega) (by omega)).call ?_
  (try (simp (disch := first | omega | (simp <;> omega) | fail) only [push_cast, ↓reduceIte, Nat.reduceEqDiff, Nat.reduceAdd, Nat.reduceMul, Nat.reduceSub, Nat.reduceLT, Int.reduceToNat]))
  first | refine goC_split (fun hd => ?_) (fun hd => ?_) | refine cnd_split (fun hd => ?_) (fun hd => ?_)
  · (try (simp only [decide_eq_true_eq, decide_eq_false_iff_not, Bool.not_eq_true', Bool.not_eq_false', Bool.and_eq_true, Bool.or_eq_true, Int.not_lt, Int.not_le] at hd)); (try (simp (disch := first | omega | (simp <;> omega) | fail) only [push_cast, ↓reduceIte, Nat.reduceEqDiff, Nat.reduceAdd, Nat.reduceMul, Nat.reduceSub, Nat.reduceLT, Int.reduceToNat]))
  (try (simp only [decide_eq_true_eq, decide_eq_false_iff_not, Bool.not_eq_true', Bool.not_eq_false', Bool.and_eq_true, Bool.or_eq_true, Int.not_lt, Int.not_le] at hd)); (try (simp (disch := first | omega | (simp <;> omega) | fail) only [push_cast, ↓reduceIte, Nat.reduceEqDiff, Nat.reduceAdd, Nat.reduceMul, Nat.reduceSub, Nat.reduceLT, Int.reduceToNat]))
  have hw := szv_ok hd
  have hw2 : wSy s ≤ 1048576 := by omega
  have hoff := offB_cp (s := s)
  refine (c_laws_toSystem s hw2).call ?_
  (try (simp (disch := first | omega | (simp <;> omega) | fail) only [push_cast, ↓reduceIte, Nat.reduceEqDiff, Nat.reduceAdd, Nat.reduceMul, Nat.reduceSub, Nat.reduceLT, Int.reduceToNat]))
  refine (c_spec_RefusalOf (cpSy s)).call ?_
  have hrl := refO_len (s := cpSy s)
  unfold refOV
  obtain ⟨a, ha⟩ : ∃ a, a = refO (cpSy s) := ⟨_, rfl⟩
  obtain ⟨q, hq⟩ : ∃ q, q = decide (0 < (lI (refO (cpSy s))).length) := ⟨_, rfl⟩
  rw [← ha] at hrl
  rw [← hq, ← ha]
  have himpl : FnO Try.prog 27 [eSy (cpSy s)] (· = .tup [eI a, .bool q]) := by
    have := c_impl_RefusalOf_o (cpSy s)
    unfold refOV at this
    rw [← hq, ← ha] at this
    exact this
  clear hq ha
  (try (simp (disch := first | omega | (simp <;> omega) | fail) only [push_cast, ↓reduceIte, Nat.reduceEqDiff, Nat.reduceAdd, Nat.reduceMul, Nat.reduceSub, Nat.reduceLT, Int.reduceToNat]))
  refine (c_laws_toSystem_o s hw2).go fun x t h1 hR hx1 how => ?_
  subst hR
  have hb1 : H.cells h1 h.length = some [.int .i64 s.size, eBS s.rows, eO s.right] := hx1.cells (by rw [cells_h0]; rfl)
  obtain ⟨b1, b2, rfl⟩ := ow_sys how
  have hl1 := hx1.len
  simp only [List.length_append, List.length_cons, List.length_nil] at hl1 how
  (try (simp (disch := first | omega | (simp <;> omega) | fail) only [push_cast, ↓reduceIte, Nat.reduceEqDiff, Nat.reduceAdd, Nat.reduceMul, Nat.reduceSub, Nat.reduceLT, Int.reduceToNat, hb1]))
  refine himpl.goL (.cons (Ext.refl.app.ow how).vw0 .nil) fun y t h2 hR hx2 how2 => ?_
  subst hR
  obtain ⟨g0, rfl, how3⟩ := ow_tup2 how2
  clear how2
  have og := ow_ints how3
  have hl2 := hx2.len
  simp only [List.length_append, List.length_cons, List.length_nil] at hl2 how3
  have hb2 : H.cells h2 h.length = some [.int .i64 s.size, eBS s.rows, eO s.right] := hx2.cells (cells_app hb1)
  have hx0 : H.cells h2 h1.length = some [.int .i64 s.size, .sl b1 0 2 ((lB s.rows).map cpB).length ((lB s.rows).map cpB).length, .sl b2 0 1 (lO s.right).length (lO s.right).length] := hx2.cells (by rw [cells_h0]; rfl)
  have how1 : Ow h2 [.agg [.int .i64 s.size, .sl b1 0 2 ((lB s.rows).map cpB).length ((lB s.rows).map cpB).length, .sl b2 0 1 (lO s.right).length (lO s.right).length]] [eSy (cpSy s)] (Seg (h.length + 1) h1) := hx2.ow2 (Ext.refl.app.ow how) (by simp)
  clear how hx1
  have heqI : Fn Try.prog 23 [eI a, eI a] (· = .bool true) := by
    have := c_laws_eqIntS a a
    simpa using this
  (try (simp (disch := first | omega | (simp <;> omega) | fail) only [push_cast, ↓reduceIte, Nat.reduceEqDiff, Nat.reduceAdd, Nat.reduceMul, Nat.reduceSub, Nat.reduceLT, Int.reduceToNat, hb2]))
  refine heqI.lendL (.cons how3.vw0 (.free free_eI .nil)) own_bool ?_
  (try (simp (disch := first | omega | (simp <;> omega) | fail) only [push_cast, ↓reduceIte, Nat.reduceEqDiff, Nat.reduceAdd, Nat.reduceMul, Nat.reduceSub, Nat.reduceLT, Int.reduceToNat, hb2, hx0]))
  refine (c_laws_toSystem s hw2).call ?_
  (try (simp (disch := first | omega | (simp <;> omega) | fail) only [push_cast, ↓reduceIte, Nat.reduceEqDiff, Nat.reduceAdd, Nat.reduceMul, Nat.reduceSub, Nat.reduceLT, Int.reduceToNat, hb2, hx0]))
  refine (c_laws_eqSystem (cpSy s) (cpSy s)).lendL (.cons how1.vw0 (.free free_eSy .nil)) own_bool ?_
  rw [sameSy_cp]
  (try (simp (disch := first | omega | (simp <;> omega) | fail) only [push_cast, ↓reduceIte, Nat.reduceEqDiff, Nat.reduceAdd, Nat.reduceMul, Nat.reduceSub, Nat.reduceLT, Int.reduceToNat, hb2, hx0]))
  refine (c_laws_markSystem _ (cpSy s) _ 1 _ how1 (fun c hc => by have := hc.2; omega) (by omega) (by omega)).mono (fun x h3 hx => ?_) (fun c _ hc => Or.inr (by have := hc.1; omega))
  obtain ⟨rfl, hk1⟩ := hx
  have hb3 : H.cells h3 h.length = some [.int .i64 s.size, eBS s.rows, eO s.right] := cells_keep_ (hk1.2 _ (by omega) fun hc => by have := hc.1; omega) hb2
  have how4 := hk1.ow how3 fun c hc => ⟨hc.2, fun hd => by have := hc.1; have := hd.2; omega⟩
  have hl3 := hk1.1
  (try (simp (disch := first | omega | (simp <;> omega) | fail) only [push_cast, ↓reduceIte, Nat.reduceEqDiff, Nat.reduceAdd, Nat.reduceMul, Nat.reduceSub, Nat.reduceLT, Int.reduceToNat, hb3]))
  refine heqI.lendL (.cons how4.vw0 (.free free_eI .nil)) own_bool ?_
  (try (simp (disch := first | omega | (simp <;> omega) | fail) only [push_cast, ↓reduceIte, Nat.reduceEqDiff, Nat.reduceAdd, Nat.reduceMul, Nat.reduceSub, Nat.reduceLT, Int.reduceToNat, hb3]))
  refine (c_laws_markIntS g0 a _ 1 _ how4 (by omega) (by omega)).mono (fun x h4 hx => ?_) (fun c _ hc => Or.inr (by have := hc.1; omega))
  obtain ⟨rfl, hk2, how5⟩ := hx
  have hb4 : H.cells h4 h.length = some [.int .i64 s.size, eBS s.rows, eO s.right] := cells_keep_ (hk2.2 _ fun hc => by have := hc.1; omega) hb3
  (try (simp (disch := first | omega | (simp <;> omega) | fail) only [push_cast, ↓reduceIte, Nat.reduceEqDiff, Nat.reduceAdd, Nat.reduceMul, Nat.reduceSub, Nat.reduceLT, Int.reduceToNat, hb4]))
  refine (c_laws_heldIntS (mkI 1 a) 1 (lI a).length lI_mkI (by omega) (by omega)).lendL (.cons how5.vw0 (.free free_int .nil)) own_int ?_
  (try (simp (disch := first | omega | (simp <;> omega) | fail) only [push_cast, ↓reduceIte, Nat.reduceEqDiff, Nat.reduceAdd, Nat.reduceMul, Nat.reduceSub, Nat.reduceLT, Int.reduceToNat, hb4]))
  refine (c_laws_toSystem s hw2).call ?_
  (try (simp (disch := first | omega | (simp <;> omega) | fail) only [push_cast, ↓reduceIte, Nat.reduceEqDiff, Nat.reduceAdd, Nat.reduceMul, Nat.reduceSub, Nat.reduceLT, Int.reduceToNat, hb4]))
  refine himpl.fn.call ?_
  (try (simp (disch := first | omega | (simp <;> omega) | fail) only [push_cast, ↓reduceIte, Nat.reduceEqDiff, Nat.reduceAdd, Nat.reduceMul, Nat.reduceSub, Nat.reduceLT, Int.reduceToNat, hb4]))
  refine heqI.call ?_
  (try (simp (disch := first | omega | (simp <;> omega) | fail) only [push_cast, ↓reduceIte, Nat.reduceEqDiff, Nat.reduceAdd, Nat.reduceMul, Nat.reduceSub, Nat.reduceLT, Int.reduceToNat, hb4]))
  refine (c_laws_heldIntS (mkI 1 a) 1 (lI a).length lI_mkI (by omega) (by omega)).lendL (.cons how5.vw0 (.free free_int .nil)) own_int ?_
  (try (simp (disch := first | omega | (simp <;> omega) | fail) only [push_cast, ↓reduceIte, Nat.reduceEqDiff, Nat.reduceAdd, Nat.reduceMul, Nat.reduceSub, Nat.reduceLT, Int.reduceToNat, hb4]))

end Go.Proofs.Ytgkdnpigbpkehaa.M
