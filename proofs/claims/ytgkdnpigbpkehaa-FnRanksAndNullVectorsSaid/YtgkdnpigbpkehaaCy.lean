/-
  What the functions return.
-/
import Derived.Test.YtgkdnpigbpkehaaFy
import Derived.Test.YtgkdnpigbpkehaaCt
namespace Go.Proofs.Ytgkdnpigbpkehaa.M
open Go Go.RowKit
set_option linter.unusedVariables false
set_option linter.unusedSimpArgs false
set_option maxRecDepth 4000

theorem c_laws_big (a b : Option (List UInt8)) (ha : (lU a).length ≤ 9223372036854775807) : Fn Try.prog 43 [eU a, eU b] (· = .bool (decide (1048576 < ((lU a).length : Int)) || decide (1048576 - ((lU a).length : Int) < ((lU b).length : Int)))) := by
  refine Fn.of free_bool fun h => ?_
  refine enter (by kernel_rfl) e43 (by kernel_rfl) rfl fun hok => ?_
  simp only [r43, initEnv_2]
  by_cases h1 : 1048576 < ((lU a).length : Int)
  · (try (simp (disch := first | omega | (simp <;> omega) | fail) only [push_cast, ↓reduceIte, Nat.reduceEqDiff, Nat.reduceAdd, Nat.reduceMul, Nat.reduceSub, Nat.reduceLT, Int.reduceToNat, h1]))
    all_goals (try simp [h1])
  · (try (simp (disch := first | omega | (simp <;> omega) | fail) only [push_cast, ↓reduceIte, Nat.reduceEqDiff, Nat.reduceAdd, Nat.reduceMul, Nat.reduceSub, Nat.reduceLT, Int.reduceToNat, h1]))
    (first | refine goC_split (fun hc => ?_) (fun hc => ?_) | refine cnd_split (fun hc => ?_) (fun hc => ?_)) <;> ((try (simp (disch := first | omega | (simp <;> omega) | fail) only [push_cast, ↓reduceIte, Nat.reduceEqDiff, Nat.reduceAdd, Nat.reduceMul, Nat.reduceSub, Nat.reduceLT, Int.reduceToNat]))) <;> (try rw [hc])

theorem c_impl_RankOf (s : Sy) : Fn Try.prog 25 [eSy s] (· = rankV s) := by
  refine Fn.of free_rankV fun h => ?_
  refine enter (by kernel_rfl) e25 (by kernel_rfl) rfl fun hok => ?_
  simp only [r25, initEnv_1]
  (try (simp (disch := first | omega | (simp <;> omega) | fail) only [push_cast, ↓reduceIte, Nat.reduceEqDiff, Nat.reduceAdd, Nat.reduceMul, Nat.reduceSub, Nat.reduceLT, Int.reduceToNat]))
  refine (c_impl_IsSystem s).call ?_
  unfold rankV
  cases hk : okSy s
  · (try (simp (disch := first | omega | (simp <;> omega) | fail) only [push_cast, ↓reduceIte, Nat.reduceEqDiff, Nat.reduceAdd, Nat.reduceMul, Nat.reduceSub, Nat.reduceLT, Int.reduceToNat]))
    all_goals (try rfl)
  obtain ⟨m, ho⟩ := okE_n hk
  (try (simp (disch := first | omega | (simp <;> omega) | fail) only [push_cast, ↓reduceIte, Nat.reduceEqDiff, Nat.reduceAdd, Nat.reduceMul, Nat.reduceSub, Nat.reduceLT, Int.reduceToNat]))
  refine (c_impl_reduced s _ m ho).use ?_
  rintro x ⟨L, hp, rfl⟩
  have hl : L.length = (linS s).length := hp.length_eq.trans (lin_sim s).len.symm
  (try (simp (disch := first | omega | (simp <;> omega) | fail) only [push_cast, ↓reduceIte, Nat.reduceEqDiff, Nat.reduceAdd, Nat.reduceMul, Nat.reduceSub, Nat.reduceLT, Int.reduceToNat, lenA_eQs, lL_optN, hl]))
  all_goals (try rfl)

theorem c_spec_RankOf (s : Sy) : Fn Try.prog 24 [eSy s] (· = rankV s) := by
  refine Fn.of free_rankV fun h => ?_
  refine enter (by kernel_rfl) e24 (by kernel_rfl) rfl fun hok => ?_
  simp only [r24, initEnv_1]
  (try (simp (disch := first | omega | (simp <;> omega) | fail) only [push_cast, ↓reduceIte, Nat.reduceEqDiff, Nat.reduceAdd, Nat.reduceMul, Nat.reduceSub, Nat.reduceLT, Int.reduceToNat]))
  refine (c_spec_reGood s).call ?_
  unfold rankV
  cases hk : okSy s
  · (try (simp (disch := first | omega | (simp <;> omega) | fail) only [push_cast, ↓reduceIte, Nat.reduceEqDiff, Nat.reduceAdd, Nat.reduceMul, Nat.reduceSub, Nat.reduceLT, Int.reduceToNat]))
    all_goals (try rfl)
  obtain ⟨m, ho⟩ := okE_n hk
  (try (simp (disch := first | omega | (simp <;> omega) | fail) only [push_cast, ↓reduceIte, Nat.reduceEqDiff, Nat.reduceAdd, Nat.reduceMul, Nat.reduceSub, Nat.reduceLT, Int.reduceToNat]))
  refine (c_spec_reLines s _ m ho).call ?_
  unfold linesV
  (try (simp (disch := first | omega | (simp <;> omega) | fail) only [push_cast, ↓reduceIte, Nat.reduceEqDiff, Nat.reduceAdd, Nat.reduceMul, Nat.reduceSub, Nat.reduceLT, Int.reduceToNat, lenA_eLs, lL_optN]))
  all_goals (try rfl)

theorem c_impl_FreeColumns_o (s : Sy) : FnO Try.prog 32 [eSy s] (· = freeOV s true) := by
  intro h
  refine enter (by kernel_rfl) e32 (by kernel_rfl) rfl fun hok => ?_
  simp only [r32, initEnv_1]
  (try (simp (disch := first | omega | (simp <;> omega) | fail) only [push_cast, ↓reduceIte, Nat.reduceEqDiff, Nat.reduceAdd, Nat.reduceMul, Nat.reduceSub, Nat.reduceLT, Int.reduceToNat]))
  refine (c_impl_IsSystem s).call ?_
  unfold freeOV
  cases hk : okSy s
  · (try (simp (disch := first | omega | (simp <;> omega) | fail) only [push_cast, ↓reduceIte, Nat.reduceEqDiff, Nat.reduceAdd, Nat.reduceMul, Nat.reduceSub, Nat.reduceLT, Int.reduceToNat]))
    exact ⟨_, (Ow.atom rfl (.atom rfl .nil)).tupOf, rfl⟩
  obtain ⟨m, ho⟩ := okE_n hk
  have hn2 := ho.n2
  have hm := ho.hm
  (try (simp (disch := first | omega | (simp <;> omega) | fail) only [push_cast, ↓reduceIte, Nat.reduceEqDiff, Nat.reduceAdd, Nat.reduceMul, Nat.reduceSub, Nat.reduceLT, Int.reduceToNat]))
  refine (c_impl_reduced s _ m ho).use ?_
  rintro x ⟨L, hp, rfl⟩
  have hl : L.length = (linI s).length := hp.length_eq
  have hll := stI_len (s := s) (n := nSy s) (i := (lB s.rows).length)
  have hlL : L.length ≤ 40 := by
    have := ho.nr
    unfold linI at hl
    omega
  have hfr : freeTo L (nSy s) (nSy s) = freeN s := by
    unfold freeN
    refine freeTo_congr fun c => ?_
    exact (hp.map (lead (nSy s))).mem_iff.trans ((lin_sim s).leads c).symm
  (try (simp (disch := first | omega | (simp <;> omega) | fail) only [push_cast, ↓reduceIte, Nat.reduceEqDiff, Nat.reduceAdd, Nat.reduceMul, Nat.reduceSub, Nat.reduceLT, Int.reduceToNat]))
  refine (c_impl_free_o s _ m L ho.sz (by omega) (by omega) (by omega) (by omega)).go fun x t h2 hR hx how => ?_
  subst hR
  rw [hfr] at how
  have hl2 := hx.len
  simp only [List.length_append, List.length_cons, List.length_nil] at hl2 how
  (try (simp (disch := first | omega | (simp <;> omega) | fail) only [push_cast, ↓reduceIte, Nat.reduceEqDiff, Nat.reduceAdd, Nat.reduceMul, Nat.reduceSub, Nat.reduceLT, Int.reduceToNat]))
  refine ⟨_, (Ow.two (F' := fun _ => False) how (.atom rfl .nil) (fun c hc => ?_) (fun _ h => h.elim)).tupOf, rfl⟩
  have := hc.1
  omega

def optB (l : List Bt) : Option (List Bt) := if l = [] then none else some l
theorem lB_optB {l : List Bt} : lB (optB l) = l := by
  unfold optB
  split
  · rename_i h
    rw [h]
    rfl
  · rfl

def nullN (s : Sy) (c : Nat) : Nat := fillS (nSy s) false (linS s) (2 ^ c) (nSy s)
theorem free_get {s : Sy} {i : Nat} (hi : i < (freeN s).length) : ∃ c : Nat, (freeN s).getD i 0 = (c : Int) ∧ c < nSy s ∧ c ∉ (linS s).map (lead (nSy s)) := by
  have hm : (freeN s).getD i 0 ∈ freeN s := getD_mem hi
  obtain ⟨c, hc, he⟩ := List.mem_map.1 (show (freeN s).getD i 0 ∈ ((List.range (nSy s)).filter fun c => !(decide (c ∈ (linS s).map (lead (nSy s))))).map fun j : Nat => (j : Int) from hm)
  rw [List.mem_filter, List.mem_range] at hc
  exact ⟨c, he.symm, hc.1, by simpa using hc.2⟩
theorem null_eq {s : Sy} {c : Nat} {M : List Nat} (hp : M.Perm (linI s)) (hc : c < nSy s) (hf : c ∉ (linS s).map (lead (nSy s))) : setP (nSy s) (fun e => e.testBit c) M (2 ^ c) = nullN s c := by
  have hs := lin_sim s
  have hfi : c ∉ (linI s).map (lead (nSy s)) := fun hh => hf ((hs.leads c).2 hh)
  have h1 := piv_eq hs (x := 2 ^ c) (fun l hl => by
    rw [Nat.testBit_two_pow]
    have : c ≠ lead (nSy s) l := fun he => hf (by rw [he]; exact List.mem_map_of_mem hl)
    simp [this]) (pivV_null hs.ei hs.rr hp hc hfi)
  refine Nat.eq_of_testBit_eq fun k => ?_
  by_cases hk : k < nSy s
  · exact h1 k hk
  · have hh : ∀ k, nSy s ≤ k → (2 ^ c).testBit k = false := fun k hk => by
      rw [Nat.testBit_two_pow]
      simp
      omega
    rw [setP_hi (fun e he => hs.ei.lt e (hp.mem_iff.1 he)) (by omega)]
    unfold nullN
    rw [fillS_lt (Nat.le_refl _) hh k (by omega), hh k (by omega)]
def nullB (s : Sy) : List Bt := (freeN s).map fun c => ⟨nSy s, some (wordsN (nullN s c.toNat) (mSy s))⟩
theorem nullB_take {s : Sy} {i : Nat} (hi : i < (freeN s).length) : (nullB s).take (i + 1) = (nullB s).take i ++ [⟨nSy s, some (wordsN (nullN s ((freeN s).getD i 0).toNat) (mSy s))⟩] := by
  have h1 : (freeN s)[i]?.toList = [(freeN s).getD i 0] := by simp [hi]
  unfold nullB
  rw [← List.map_take, List.take_add_one, h1, List.map_append, List.map_take]
  rfl
theorem nullB_len {s : Sy} : (nullB s).length = (freeN s).length := by simp [nullB]
def nullOV (s : Sy) (q : Bool) : AV := if okSy s then .tup [eBS (if q then some (nullB s) else optB (nullB s)), .bool true] else .tup [.nils, .bool false]
theorem free_nullOV {s : Sy} {q : Bool} : Free (nullOV s q) := by
  unfold nullOV
  split
  · exact free_tup (free_cons_ free_eBS (free_cons_ free_bool free_nil_))
  · exact free_tup (free_cons_ free_nils (free_cons_ free_bool free_nil_))
theorem off_nullB {s : Sy} {m : Nat} (ho : OkE s (nSy s) m) : offB (nullB s) ≤ 1000 := by
  have h1 := freeN_len ho
  have h2 : mSy s ≤ 5 := by
    have := ho.n2
    unfold mSy
    omega
  have key : ∀ l : List Int, offB (l.map fun c => (⟨nSy s, some (wordsN (nullN s c.toNat) (mSy s))⟩ : Bt)) ≤ l.length * 6 := fun l => by
    induction l with
    | nil => simp [offB]
    | cons a l ih =>
      have hw : (lI (some (wordsN (nullN s a.toNat) (mSy s)))).length = mSy s := wordsN_len
      unfold offB at ih ⊢
      simp only [List.map_cons, List.sum_cons, List.length_cons]
      omega
  have := key (freeN s)
  unfold nullB
  omega
theorem two_pow_or {c : Nat} : 0 ||| 2 ^ c = 2 ^ c := Nat.zero_or _
theorem setB_zero {c : Nat} : setB 0 c true = 2 ^ c := by
  unfold setB
  simp

/-- The vector that is being told, with its box. -/
def NuI (h h' : H) (n m b9 bb x : Nat) : Prop :=
  h.length ≤ h'.length ∧ (∀ c, c < h.length → h'[c]? = h[c]?) ∧ h'.cells b9 = some [.int .i64 n, .sl bb 0 1 m m] ∧ h'.cells bb = some ((wordsN x m).map (.int .i64)) ∧ h.length ≤ bb ∧ h.length ≤ b9 ∧ b9 ≠ bb
theorem NuI.app {h h' l : H} {n m b9 bb x : Nat} (hr : NuI h h' n m b9 bb x) : NuI h (h' ++ l) n m b9 bb x := by
  obtain ⟨h1, h2, h3, h4, h5, h6, h7⟩ := hr
  exact ⟨by simp; omega, fun c hc => (List.getElem?_append_left (by omega)).trans (h2 c hc), cells_app h3, cells_app h4, h5, h6, h7⟩
theorem NuI.put {h h' h2 : H} {n m b9 bb x y : Nat} (hr : NuI h h' n m b9 bb x) (hl : h2.length = h'.length) (hf : ∀ c, c ≠ bb → h2[c]? = h'[c]?) (hc : h2.cells bb = some ((wordsN y m).map (.int .i64))) : NuI h h2 n m b9 bb y := by
  obtain ⟨h1, h2, h3, h4, h5, h6, h7⟩ := hr
  exact ⟨by omega, fun c hc => (hf c (by omega)).trans (h2 c hc), cells_keep (hf _ h7) h3, hc, h5, h6, h7⟩
set_option maxHeartbeats 2000000 in
theorem c_impl_NullVectors_o (s : Sy) : FnO Try.prog 39 [eSy s] (· = nullOV s true) := by
  intro h
  refine enter (by kernel_rfl) e39 (by kernel_rfl) rfl fun hok => ?_
  simp only [r39, initEnv_1]
  (try (simp (disch := first | omega | (simp <;> omega) | fail) only [push_cast, ↓reduceIte, Nat.reduceEqDiff, Nat.reduceAdd, Nat.reduceMul, Nat.reduceSub, Nat.reduceLT, Int.reduceToNat]))
  refine (c_impl_IsSystem s).call ?_
  unfold nullOV
  cases hk : okSy s
  · (try (simp (disch := first | omega | (simp <;> omega) | fail) only [push_cast, ↓reduceIte, Nat.reduceEqDiff, Nat.reduceAdd, Nat.reduceMul, Nat.reduceSub, Nat.reduceLT, Int.reduceToNat]))
    exact ⟨_, (Ow.atom rfl (.atom rfl .nil)).tupOf, rfl⟩
  obtain ⟨m, ho⟩ := okE_n hk
  have hmm := ho.mm
  have hsz := ho.sz
  have hn1 := ho.n1
  have hn2 := ho.n2
  have hm := ho.hm
  have hnr := ho.nr
  have hll := stI_len (s := s) (n := nSy s) (i := (lB s.rows).length)
  have hfl := freeN_len ho
  (try (simp (disch := first | omega | (simp <;> omega) | fail) only [push_cast, ↓reduceIte, Nat.reduceEqDiff, Nat.reduceAdd, Nat.reduceMul, Nat.reduceSub, Nat.reduceLT, Int.reduceToNat]))
  refine (c_impl_reduced s _ m ho).use ?_
  rintro x ⟨L, hp, rfl⟩
  have hL : L.length ≤ 40 := by
    have := hp.length_eq
    omega
  have hlead : ∀ l ∈ L, lead (nSy s) l < nSy s := fun l hl => (lin_sim s).ei.lt l (hp.mem_iff.1 hl)
  have hfr : freeTo L (nSy s) (nSy s) = freeN s := by
    unfold freeN
    refine freeTo_congr fun c => ?_
    exact (hp.map (lead (nSy s))).mem_iff.trans ((lin_sim s).leads c).symm
  (try (simp (disch := first | omega | (simp <;> omega) | fail) only [push_cast, ↓reduceIte, Nat.reduceEqDiff, Nat.reduceAdd, Nat.reduceMul, Nat.reduceSub, Nat.reduceLT, Int.reduceToNat]))
  refine ((c_impl_free_o s _ m L ho.sz (by omega) (by omega) (by omega) (by omega)).fn).call ?_
  rw [hfr]
  have hlI : lI (some (freeN s)) = freeN s := rfl
  (try (simp (disch := first | omega | (simp <;> omega) | fail) only [push_cast, ↓reduceIte, Nat.reduceEqDiff, Nat.reduceAdd, Nat.reduceMul, Nat.reduceSub, Nat.reduceLT, Int.reduceToNat, hlI]))
  refine T_for (freeN s).length (fun i e h' => ∃ v, Pins e [(1, .adr h.length 0), (4, eQs (nSy s) m (optN L)), (6, v), (23, eI (some (freeN s))), (24, .int .i64 (freeN s).length), (25, .int .i64 i)] ∧ h'.cells h.length = some [.int .i64 (nSy s), eBS s.rows, eO s.right] ∧ Ow h' [v] [.ro 2 (((nullB s).take i).flatMap cB) i] (fun c => h.length + 1 ≤ c)) ?_ ?_
  · (try (simp (disch := first | omega | (simp <;> omega) | fail) only [push_cast, ↓reduceIte, Nat.reduceEqDiff, Nat.reduceAdd, Nat.reduceMul, Nat.reduceSub, Nat.reduceLT, Int.reduceToNat, hsz]))
    all_goals (try exact ⟨_, rfl, by simpa using ow_sl (h := h ++ [some (.cells [.int .i64 (nSy s), eBS s.rows, eO s.right]), some (.cells [])]) (b := h.length + 1) (n := 0) (sz := 2) (cs := []) (G := fun c => h.length + 1 ≤ c) (by rw [cells_hk]; rfl) rfl rfl .nil (Nat.le_refl _)⟩)
  rintro i e h' hi ⟨v, hp2, hb, hs⟩
  refine T_pins hp2 fun e => ?_
  have hbl := cells_lt hb
  (try (simp (disch := first | omega | (simp <;> omega) | fail) only [push_cast, ↓reduceIte, Nat.reduceEqDiff, Nat.reduceAdd, Nat.reduceMul, Nat.reduceSub, Nat.reduceLT, Int.reduceToNat]))
  first | refine goC_split (fun hc => ?_) (fun hc => ?_) | refine cnd_split (fun hc => ?_) (fun hc => ?_)
  · (try (simp only [decide_eq_true_eq, decide_eq_false_iff_not, Bool.not_eq_true', Bool.not_eq_false', Bool.and_eq_true, Bool.or_eq_true, Int.not_lt, Int.not_le] at hc)); (try (simp (disch := first | omega | (simp <;> omega) | fail) only [push_cast, ↓reduceIte, Nat.reduceEqDiff, Nat.reduceAdd, Nat.reduceMul, Nat.reduceSub, Nat.reduceLT, Int.reduceToNat]))
    have hi2 : i < (freeN s).length := by omega
    obtain ⟨c, hgc, hcn, hcf⟩ := free_get hi2
    have htk := nullB_take hi2
    rw [hgc, Int.toNat_natCast, ← hmm] at htk
    have hgi : (lI (some (freeN s))).getD i 0 = (c : Int) := hgc
    have hi3 : i < (lI (some (freeN s))).length := hi2
    (try (simp (disch := first | omega | (simp <;> omega) | fail) only [push_cast, ↓reduceIte, Nat.reduceEqDiff, Nat.reduceAdd, Nat.reduceMul, Nat.reduceSub, Nat.reduceLT, Int.reduceToNat, hgi, hb]))
    refine (c_impl_blank_own (nSy s) m (by omega) hm _).mono (fun x h1 hx => ?_) (fun _ _ h => h.elim)
    obtain ⟨bb, rfl, hbb, ⟨p, hp1⟩, hcb⟩ := hx
    have hl1 : h'.length ≤ h1.length := by rw [hp1]; simp
    have hk1 : ∀ c, c < h'.length → h1[c]? = h'[c]? := fun c hc => by rw [hp1]; exact List.getElem?_append_left hc
    have hbl1 := cells_lt hcb
    clear hp1
    have hne : h1.length ≠ bb := by omega
    have hN0 : NuI h' (h1 ++ [some (.cells [.int .i64 (nSy s), .sl bb 0 1 m m])]) (nSy s) m h1.length bb 0 := ⟨by simp; omega, fun c hc => (List.getElem?_append_left (by omega)).trans (hk1 c hc), by rw [cells_h0]; rfl, cells_app hcb, hbb, hl1, hne⟩
    (try (simp (disch := first | omega | (simp <;> omega) | fail) only [push_cast, ↓reduceIte, Nat.reduceEqDiff, Nat.reduceAdd, Nat.reduceMul, Nat.reduceSub, Nat.reduceLT, Int.reduceToNat]))
    refine (c_impl_Bits_set m 0 c h1.length 0 bb true _ _ hN0.2.2.1 rfl hN0.2.2.2.1 (by omega) (by omega) hne).mono (fun y h2 hy => ?_) (fun b' _ hb' => Or.inr (by omega))
    obtain ⟨y1, y2, y3⟩ := hy
    have hN1 := hN0.put y1 y2 y3
    rw [setB_zero] at hN1
    clear y1 y2 y3 hN0
    (try (simp (disch := first | omega | (simp <;> omega) | fail) only [push_cast, ↓reduceIte, Nat.reduceEqDiff, Nat.reduceAdd, Nat.reduceMul, Nat.reduceSub, Nat.reduceLT, Int.reduceToNat, lenA_eQs, lL_optN]))
    refine T_for L.length (fun k e h2 => Pins e [(1, .adr h.length 0), (4, eQs (nSy s) m (optN L)), (6, v), (8, .int .i64 c), (9, .adr h1.length 0), (23, eI (some (freeN s))), (24, .int .i64 (freeN s).length), (25, .int .i64 i), (34, eQs (nSy s) m (optN L)), (35, .int .i64 L.length), (36, .int .i64 k)] ∧ NuI h' h2 (nSy s) m h1.length bb (setP (nSy s) (fun e => e.testBit c) (L.take k) (2 ^ c))) ?_ ?_
    · (try (simp (disch := first | omega | (simp <;> omega) | fail) only [push_cast, ↓reduceIte, Nat.reduceEqDiff, Nat.reduceAdd, Nat.reduceMul, Nat.reduceSub, Nat.reduceLT, Int.reduceToNat]))
      all_goals (try exact hN1)
    clear hN1
    rintro k e h2 hk2 ⟨hp3, hr⟩
    refine T_pins hp3 fun e => ?_
    (try (simp (disch := first | omega | (simp <;> omega) | fail) only [push_cast, ↓reduceIte, Nat.reduceEqDiff, Nat.reduceAdd, Nat.reduceMul, Nat.reduceSub, Nat.reduceLT, Int.reduceToNat]))
    first | refine goC_split (fun hd => ?_) (fun hd => ?_) | refine cnd_split (fun hd => ?_) (fun hd => ?_)
    · (try (simp only [decide_eq_true_eq, decide_eq_false_iff_not, Bool.not_eq_true', Bool.not_eq_false', Bool.and_eq_true, Bool.or_eq_true, Int.not_lt, Int.not_le] at hd)); (try (simp (disch := first | omega | (simp <;> omega) | fail) only [push_cast, ↓reduceIte, Nat.reduceEqDiff, Nat.reduceAdd, Nat.reduceMul, Nat.reduceSub, Nat.reduceLT, Int.reduceToNat]))
      have hk3 : k < L.length := by omega
      have hiq : iaddrA 4 (eQs (nSy s) m (optN L)) (.int .i64 (k : Int)) = some (.rad (L.flatMap (cQ (nSy s) m)) (k * 4)) := by
        rw [iaddr_eQs (by omega) (by rw [lL_optN]; omega), lL_optN]
        rfl
      have hld := ld_Q (n := nSy s) (m := m) hk3
      have hst := setP_take (n := nSy s) (g := fun e => e.testBit c) (y := 2 ^ c) hk3
      have hlt := hlead _ (getD_mem (d := 0) hk3)
      generalize L.getD k 0 = l at hst hld hlt
      have hcx : cQ (nSy s) m l = [.int .i64 (nSy s), eI (some (wordsN (l % 2 ^ nSy s) m)), .bool (l.testBit (nSy s)), .int .u64 (ofN (nSy s) l : Int)] := rfl
      rw [hcx] at hld
      have hr0 := hr.app (l := [some (.cells (cQ (nSy s) m l))])
      obtain ⟨r1, r2, r3, r4, r5, r6, r7⟩ := hr0
      have hlh : h.length ≤ h2.length := by
        have := hr.1
        omega
      have hbl2 := cells_lt hr.2.2.2.1
      have hnx := c_impl_Bits_next2 (some (wordsN (l % 2 ^ nSy s) m)) (nSy s) (l % 2 ^ nSy s) m (cQ (nSy s) m l) 0 rfl rfl rfl (by omega) (by omega)
      rw [lead_mod] at hnx
      have hat := c_impl_Bits_at (some (wordsN (l % 2 ^ nSy s) m)) (l % 2 ^ nSy s) m c (cQ (nSy s) m l) 0 rfl rfl (by omega) (by omega)
      have hmt : (l % 2 ^ nSy s).testBit c = l.testBit c := by
        rw [Nat.testBit_mod_two_pow]
        simp [hcn]
      rw [hmt] at hat
      (try (simp (disch := first | omega | (simp <;> omega) | fail) only [push_cast, ↓reduceIte, Nat.reduceEqDiff, Nat.reduceAdd, Nat.reduceMul, Nat.reduceSub, Nat.reduceLT, Int.reduceToNat, hiq, hld]))
      refine hnx.lendL ?_ own_int ?_
      · exact .adr (cs := cQ (nSy s) m l) (by rw [cells_h0]; rfl) free_cQ (.free free_int (.free free_bool .nil))
      (try (simp (disch := first | omega | (simp <;> omega) | fail) only [push_cast, ↓reduceIte, Nat.reduceEqDiff, Nat.reduceAdd, Nat.reduceMul, Nat.reduceSub, Nat.reduceLT, Int.reduceToNat]))
      refine hat.lendL ?_ own_bool ?_
      · exact .adr (cs := cQ (nSy s) m l) (by rw [cells_h0]; rfl) free_cQ (.free free_int .nil)
      (try (simp (disch := first | omega | (simp <;> omega) | fail) only [push_cast, ↓reduceIte, Nat.reduceEqDiff, Nat.reduceAdd, Nat.reduceMul, Nat.reduceSub, Nat.reduceLT, Int.reduceToNat]))
      refine (c_impl_Bits_set m _ (lead (nSy s) l) h1.length 0 bb (l.testBit c) _ _ r3 rfl r4 (by omega) (by omega) r7).mono (fun y h3 hy => ?_) (fun b' _ hb' => Or.inr (by omega))
      obtain ⟨y1, y2, y3⟩ := hy
      have hfin := (hr.app (l := [some (.cells (cQ (nSy s) m l))])).put y1 y2 y3
      rw [← hst] at hfin
      (try (simp (disch := first | omega | (simp <;> omega) | fail) only [push_cast, ↓reduceIte, Nat.reduceEqDiff, Nat.reduceAdd, Nat.reduceMul, Nat.reduceSub, Nat.reduceLT, Int.reduceToNat]))
      all_goals (try exact hfin)
    · (try (simp only [decide_eq_true_eq, decide_eq_false_iff_not, Bool.not_eq_true', Bool.not_eq_false', Bool.and_eq_true, Bool.or_eq_true, Int.not_lt, Int.not_le] at hd)); (try (simp (disch := first | omega | (simp <;> omega) | fail) only [push_cast, ↓reduceIte, Nat.reduceEqDiff, Nat.reduceAdd, Nat.reduceMul, Nat.reduceSub, Nat.reduceLT, Int.reduceToNat]))
      have hke : k = L.length := by omega
      subst hke
      rw [List.take_length, null_eq hp hcn hcf] at hr
      obtain ⟨r1, r2, r3, r4, r5, r6, r7⟩ := hr
      have hrow : rows [AV.int .i64 0, .nils] 1 = [.int .i64 0, .nils] := rfl
      have hfl2 : fillA [.int .i64 0, .nils] [(0, 2, .agg [.int .i64 (nSy s), .sl bb 0 1 m m])] = some [.int .i64 (nSy s), .sl bb 0 1 m m] := rfl
      (try (simp (disch := first | omega | (simp <;> omega) | fail) only [push_cast, ↓reduceIte, Nat.reduceEqDiff, Nat.reduceAdd, Nat.reduceMul, Nat.reduceSub, Nat.reduceLT, Int.reduceToNat, hrow, hfl2, r3]))
      refine (show OwS h' (h.length + 1) 2 v i _ from .inr hs).app (by omega) (fun b hb => Or.inr (by omega)) (by simp; omega) (fun c hc => (List.getElem?_append_left (by omega)).trans (r2 c hc)) (new := [.int .i64 (nSy s), .sl bb 0 1 m m]) (nt := cB ⟨nSy s, some (wordsN (nullN s c) m)⟩) ?_ rfl rfl (by omega) fun v2 h4 a1 a2 a3 a4 => ?_
      · refine .atom rfl ?_
        have := ow_map (h := h2 ++ [some (.cells [.int .i64 (nSy s), .sl bb 0 1 m m])]) (f := AV.int .i64) (l := wordsN (nullN s c) m) (G := fun c => h'.length ≤ c) (fun _ => rfl) (cells_app r4) wordsN_len r5
        unfold eI
        simpa [wordsN_len] using this
      · have a1' : Ow h4 [v2] [.ro 2 (((nullB s).take (i + 1)).flatMap cB) (i + 1)] (fun c => h.length + 1 ≤ c) := by
          rw [htk, List.flatMap_append]
          simpa using a1
        have hb4 : h4.cells h.length = some [.int .i64 (nSy s), eBS s.rows, eO s.right] := cells_keep_ ((a3 _ (by omega)).trans ((List.getElem?_append_left (by omega)).trans (r2 _ hbl))) hb
        (try (simp (disch := first | omega | (simp <;> omega) | fail) only [push_cast, ↓reduceIte, Nat.reduceEqDiff, Nat.reduceAdd, Nat.reduceMul, Nat.reduceSub, Nat.reduceLT, Int.reduceToNat]))
        all_goals (try exact ⟨_, rfl, hb4, a1'⟩)
  · (try (simp only [decide_eq_true_eq, decide_eq_false_iff_not, Bool.not_eq_true', Bool.not_eq_false', Bool.and_eq_true, Bool.or_eq_true, Int.not_lt, Int.not_le] at hc)); (try (simp (disch := first | omega | (simp <;> omega) | fail) only [push_cast, ↓reduceIte, Nat.reduceEqDiff, Nat.reduceAdd, Nat.reduceMul, Nat.reduceSub, Nat.reduceLT, Int.reduceToNat]))
    have hie : i = (freeN s).length := by omega
    subst hie
    have hnl := nullB_len (s := s)
    rw [show (nullB s).take (freeN s).length = nullB s from List.take_of_length_le (by omega), ← hnl] at hs
    (try (simp (disch := first | omega | (simp <;> omega) | fail) only [push_cast, ↓reduceIte, Nat.reduceEqDiff, Nat.reduceAdd, Nat.reduceMul, Nat.reduceSub, Nat.reduceLT, Int.reduceToNat]))
    refine ⟨_, (Ow.two (F' := fun _ => False) hs (.atom rfl .nil) (fun c hc => by omega) (fun _ h => h.elim)).tupOf, rfl⟩

set_option maxHeartbeats 2000000 in
theorem c_spec_NullVectors (s : Sy) : Fn Try.prog 38 [eSy s] (· = nullOV s false) := by
  refine Fn.froze_ fun h => ?_
  refine enter (by kernel_rfl) e38 (by kernel_rfl) rfl fun hok => ?_
  simp only [r38, initEnv_1]
  (try (simp (disch := first | omega | (simp <;> omega) | fail) only [push_cast, ↓reduceIte, Nat.reduceEqDiff, Nat.reduceAdd, Nat.reduceMul, Nat.reduceSub, Nat.reduceLT, Int.reduceToNat]))
  refine (c_spec_reGood s).call ?_
  unfold nullOV
  cases hk : okSy s
  · (try (simp (disch := first | omega | (simp <;> omega) | fail) only [push_cast, ↓reduceIte, Nat.reduceEqDiff, Nat.reduceAdd, Nat.reduceMul, Nat.reduceSub, Nat.reduceLT, Int.reduceToNat]))
    exact ⟨_, .free (free_tup (free_cons_ free_nils (free_cons_ free_bool free_nil_))), rfl⟩
  obtain ⟨m, ho⟩ := okE_n hk
  have hmm := ho.mm
  have hsz := ho.sz
  have hn1 := ho.n1
  have hn2 := ho.n2
  have hm := ho.hm
  have hnr := ho.nr
  have hlen := stS_len (s := s) (n := nSy s) (i := (lB s.rows).length)
  have hfl := freeN_len ho
  (try (simp (disch := first | omega | (simp <;> omega) | fail) only [push_cast, ↓reduceIte, Nat.reduceEqDiff, Nat.reduceAdd, Nat.reduceMul, Nat.reduceSub, Nat.reduceLT, Int.reduceToNat]))
  refine (c_spec_reLines s _ m ho).call ?_
  unfold linesV
  have hL : (stS s (nSy s) (lB s.rows).length).1 = linS s := rfl
  rw [hL] at hlen
  rw [hL]
  clear hL
  (try (simp (disch := first | omega | (simp <;> omega) | fail) only [push_cast, ↓reduceIte, Nat.reduceEqDiff, Nat.reduceAdd, Nat.reduceMul, Nat.reduceSub, Nat.reduceLT, Int.reduceToNat]))
  refine (c_spec_reFree s m ho).call ?_
  have hlo : (lI (optL (freeN s))).length = (freeN s).length := by rw [lI_optL]
  (try (simp (disch := first | omega | (simp <;> omega) | fail) only [push_cast, ↓reduceIte, Nat.reduceEqDiff, Nat.reduceAdd, Nat.reduceMul, Nat.reduceSub, Nat.reduceLT, Int.reduceToNat, hlo]))
  refine T_for (freeN s).length (fun i e h' => ∃ v, Pins e [(1, .adr h.length 0), (4, eLs (nSy s) m (optN (linS s))), (6, v), (19, eI (optL (freeN s))), (20, .int .i64 (freeN s).length), (21, .int .i64 i)] ∧ h'.cells h.length = some [.int .i64 (nSy s), eBS s.rows, eO s.right] ∧ OwS h' (h.length + 1) 2 v i (((nullB s).take i).flatMap cB) ∧ (i = 0 → v = .nils)) ?_ ?_
  · (try (simp (disch := first | omega | (simp <;> omega) | fail) only [push_cast, ↓reduceIte, Nat.reduceEqDiff, Nat.reduceAdd, Nat.reduceMul, Nat.reduceSub, Nat.reduceLT, Int.reduceToNat, hsz]))
    exact ⟨_, rfl, .inl ⟨rfl, rfl, by simp⟩, fun _ => rfl⟩
  rintro i e h' hi ⟨v, hp, hb, hs, hvn⟩
  refine T_pins hp fun e => ?_
  have hbl := cells_lt hb
  (try (simp (disch := first | omega | (simp <;> omega) | fail) only [push_cast, ↓reduceIte, Nat.reduceEqDiff, Nat.reduceAdd, Nat.reduceMul, Nat.reduceSub, Nat.reduceLT, Int.reduceToNat]))
  first | refine goC_split (fun hc => ?_) (fun hc => ?_) | refine cnd_split (fun hc => ?_) (fun hc => ?_)
  · (try (simp only [decide_eq_true_eq, decide_eq_false_iff_not, Bool.not_eq_true', Bool.not_eq_false', Bool.and_eq_true, Bool.or_eq_true, Int.not_lt, Int.not_le] at hc)); (try (simp (disch := first | omega | (simp <;> omega) | fail) only [push_cast, ↓reduceIte, Nat.reduceEqDiff, Nat.reduceAdd, Nat.reduceMul, Nat.reduceSub, Nat.reduceLT, Int.reduceToNat]))
    have hi2 : i < (freeN s).length := by omega
    obtain ⟨c, hgc, hcn, hcf⟩ := free_get hi2
    have htk := nullB_take hi2
    rw [hgc, Int.toNat_natCast, ← hmm] at htk
    have hgi : (lI (optL (freeN s))).getD i 0 = (c : Int) := by rw [lI_optL, hgc]
    (try (simp (disch := first | omega | (simp <;> omega) | fail) only [push_cast, ↓reduceIte, Nat.reduceEqDiff, Nat.reduceAdd, Nat.reduceMul, Nat.reduceSub, Nat.reduceLT, Int.reduceToNat, hgi, hb]))
    refine (c_spec_biNew_own (nSy s) m (by omega) hm _).mono (fun x h1 hx => ?_) (fun _ _ h => h.elim)
    obtain ⟨bb, rfl, hbb, ⟨p, hp1⟩, hcb⟩ := hx
    have hl1 : h'.length ≤ h1.length := by rw [hp1]; simp
    have hk1 : ∀ c, c < h'.length → h1[c]? = h'[c]? := fun c hc => by rw [hp1]; exact List.getElem?_append_left hc
    have hbl1 := cells_lt hcb
    clear hp1
    (try (simp (disch := first | omega | (simp <;> omega) | fail) only [push_cast, ↓reduceIte, Nat.reduceEqDiff, Nat.reduceAdd, Nat.reduceMul, Nat.reduceSub, Nat.reduceLT, Int.reduceToNat]))
    refine (c_spec_biSet (nSy s) bb m 0 c _ (cells_app hcb) (by omega) (by omega)).mono (fun y h2 hy => ?_) (fun b' _ hb' => Or.inr (by omega))
    obtain ⟨y1, y2, y3⟩ := hy
    rw [two_pow_or] at y3
    simp only [List.length_append, List.length_cons, List.length_nil] at y1 y2
    have hk2 : ∀ c, c < h'.length → h2[c]? = h'[c]? := fun c hc => (y2 c (by omega) (by omega)).trans ((List.getElem?_append_left (by omega)).trans (hk1 c hc))
    have hb9 : h2.cells h1.length = some [.int .i64 (nSy s), .sl bb 0 1 m m] := cells_keep_ (y2 _ (by omega) (by omega)) (by rw [cells_h0]; rfl)
    (try (simp (disch := first | omega | (simp <;> omega) | fail) only [push_cast, ↓reduceIte, Nat.reduceEqDiff, Nat.reduceAdd, Nat.reduceMul, Nat.reduceSub, Nat.reduceLT, Int.reduceToNat, hb9]))
    refine (c_spec_reFill (nSy s) m bb (2 ^ c) (linS s) false h2 y3 (by omega) (by omega) (by omega) hn1).mono (fun y h3 hy => ?_) (fun b' _ hb' => Or.inr (by omega))
    obtain ⟨rfl, z1, z2, z3⟩ := hy
    have hk3 : ∀ c, c < h'.length → h3[c]? = h'[c]? := fun c hc => (z3 c (by omega) (by omega)).trans (hk2 c hc)
    have hrow : rows [AV.int .i64 0, .nils] 1 = [.int .i64 0, .nils] := rfl
    have hfl2 : fillA [.int .i64 0, .nils] [(0, 2, .agg [.int .i64 (nSy s), .sl bb 0 1 m m])] = some [.int .i64 (nSy s), .sl bb 0 1 m m] := rfl
    have hnb : nullN s c = fillS (nSy s) false (linS s) (2 ^ c) (nSy s) := rfl
    rw [← hnb] at z2
    (try (simp (disch := first | omega | (simp <;> omega) | fail) only [push_cast, ↓reduceIte, Nat.reduceEqDiff, Nat.reduceAdd, Nat.reduceMul, Nat.reduceSub, Nat.reduceLT, Int.reduceToNat, hrow, hfl2]))
    refine hs.app (by omega) (fun b hb => Or.inr (by omega)) (by simp; omega) (fun c hc => (List.getElem?_append_left (by omega)).trans (hk3 c hc)) (new := [.int .i64 (nSy s), .sl bb 0 1 m m]) (nt := cB ⟨nSy s, some (wordsN (nullN s c) m)⟩) ?_ rfl rfl (by omega) fun v2 h4 a1 a2 a3 a4 => ?_
    · refine .atom rfl ?_
      have := ow_map (h := h3 ++ [some (.cells [.int .i64 (nSy s), .sl bb 0 1 m m])]) (f := AV.int .i64) (l := wordsN (nullN s c) m) (G := fun c => h'.length ≤ c) (fun _ => rfl) (cells_app z2) wordsN_len hbb
      unfold eI
      simpa [wordsN_len] using this
    · have a1' : OwS h4 (h.length + 1) 2 v2 (i + 1) (((nullB s).take (i + 1)).flatMap cB) := by
        rw [htk, List.flatMap_append]
        exact .inr (by simpa using a1)
      have hb4 : h4.cells h.length = some [.int .i64 (nSy s), eBS s.rows, eO s.right] := cells_keep_ ((a3 _ (by omega)).trans ((List.getElem?_append_left (by omega)).trans (hk3 _ hbl))) hb
      (try (simp (disch := first | omega | (simp <;> omega) | fail) only [push_cast, ↓reduceIte, Nat.reduceEqDiff, Nat.reduceAdd, Nat.reduceMul, Nat.reduceSub, Nat.reduceLT, Int.reduceToNat]))
      all_goals (try exact ⟨_, rfl, hb4, a1', fun h5 => h5.elim⟩)
  · (try (simp only [decide_eq_true_eq, decide_eq_false_iff_not, Bool.not_eq_true', Bool.not_eq_false', Bool.and_eq_true, Bool.or_eq_true, Int.not_lt, Int.not_le] at hc)); (try (simp (disch := first | omega | (simp <;> omega) | fail) only [push_cast, ↓reduceIte, Nat.reduceEqDiff, Nat.reduceAdd, Nat.reduceMul, Nat.reduceSub, Nat.reduceLT, Int.reduceToNat]))
    have hie : i = (freeN s).length := by omega
    subst hie
    have hnl := nullB_len (s := s)
    rw [show (nullB s).take (freeN s).length = nullB s from List.take_of_length_le (by omega)] at hs
    (try (simp (disch := first | omega | (simp <;> omega) | fail) only [push_cast, ↓reduceIte, Nat.reduceEqDiff, Nat.reduceAdd, Nat.reduceMul, Nat.reduceSub, Nat.reduceLT, Int.reduceToNat]))
    refine ⟨.tup [eBS (optB (nullB s)), .bool true], .tup rfl fun k y t hy ht => ?_, rfl⟩
    rcases k with _ | _ | k
    · simp at hy ht
      subst hy ht
      unfold optB
      rcases hs with ⟨h1, h2, h3⟩ | ho2
      · rw [if_pos (List.eq_nil_of_length_eq_zero (by omega)), h1]
        exact .free free_nils
      · by_cases h0 : (freeN s).length = 0
        · have hne : nullB s = [] := List.eq_nil_of_length_eq_zero (by omega)
          rw [if_pos hne, hvn h0]
          exact .free free_nils
        · have hne : nullB s ≠ [] := fun h5 => h0 (by rw [h5] at hnl; simp at hnl; omega)
          rw [if_neg hne]
          have := ho2.vw1 (n0 := h.length) fun c hc => by omega
          rw [← hnl] at this
          exact this
    · simp at hy ht
      subst hy ht
      exact .free free_bool
    · simp at hy

def hk (seed part : Int) (s : Str) : Int := s.foldl (fun h c => (263 * h + (c.toNat : Int)) % 65521) ((31 * seed + 977 * part + 7) % 65521)
theorem hk_bd (seed part : Int) : ∀ s : Str, 0 ≤ hk seed part s ∧ hk seed part s < 65521 := by
  intro s
  have key : ∀ (s : Str) (h : Int), 0 ≤ h ∧ h < 65521 → 0 ≤ s.foldl (fun h c => (263 * h + (c.toNat : Int)) % 65521) h ∧ s.foldl (fun h c => (263 * h + (c.toNat : Int)) % 65521) h < 65521 := by
    intro s
    induction s with
    | nil => exact fun h hh => hh
    | cons c s ih =>
      intro h hh
      rw [List.foldl_cons]
      refine ih _ ?_
      show 0 ≤ (263 * h + (c.toNat : Int)) % 65521 ∧ (263 * h + (c.toNat : Int)) % 65521 < 65521
      omega
  exact key s _ ⟨by omega, by omega⟩
theorem hk_take {seed part : Int} {s : Str} {i : Nat} (hi : i < s.length) : hk seed part (s.take (i + 1)) = (263 * hk seed part (s.take i) + ((s.getD i 0).toNat : Int)) % 65521 := by
  unfold hk
  rw [List.take_add_one, List.foldl_append]
  simp [hi]
/-- The hash. -/
def hashV (seed part : Int) (s : Str) : Int := hk seed part s ^ 11 % 65521
theorem hashV_bd (seed part : Int) (s : Str) : 0 ≤ hashV seed part s ∧ hashV seed part s < 65521 := by
  unfold hashV
  exact ⟨by omega, by omega⟩
def placeV (seed part : Int) (s : Str) (n : Int) : Int := hashV seed part s * n / 65521
theorem pow_step (h : Int) (i : Nat) : h ^ i % 65521 * h % 65521 = h ^ (i + 1) % 65521 := by
  rw [Int.pow_succ, Int.mul_emod (h ^ i % 65521) h, Int.emod_emod_of_dvd _ (Int.dvd_refl _), ← Int.mul_emod]
theorem pow_join (h : Int) (i j : Nat) : (h ^ i % 65521) * (h ^ j % 65521) % 65521 = h ^ (i + j) % 65521 := by
  rw [← Int.mul_emod, Int.pow_add]

--eng lenA_ePS iaddr_ePS eP ld_P get_P0 get_P1 get_P2 cellsOf_ePS one_ePS cP
structure Pd where
  seed : Int
  seg : Int
  marks : Option (List Int)
  deriving Inhabited
def cP (p : Pd) : List AV := [.int .i64 p.seed, .int .i64 p.seg, eI p.marks]
theorem cP_len (p : Pd) : (cP p).length = 3 := rfl
def eP (p : Pd) : AV := .agg (cP p)
def ePS : Option (List Pd) → AV
  | none => .nils
  | some l => .ro 3 (l.flatMap cP) l.length
def lP : Option (List Pd) → List Pd
  | none => []
  | some l => l
theorem lenA_ePS {l : Option (List Pd)} : lenA (ePS l) = some (.int .i64 (lP l).length) := by cases l <;> rfl
theorem iaddr_ePS {l : Option (List Pd)} {k : IntKind} {n : Int} (h1 : 0 ≤ n) (h2 : n < (lP l).length) : iaddrA 3 (ePS l) (.int k n) = some (.rad ((lP l).flatMap cP) (n.toNat * 3)) := by
  cases l with
  | none => simp [lP] at h2; omega
  | some l => exact iaddrA_ro h1 h2
theorem ld_P {l : List Pd} {i : Nat} (hi : i < l.length) : ld true 3 (l.flatMap cP) (i * 3) = some (.agg (cP (l.getD i default))) := ld_row cP_len default hi
theorem get_P0 {l : List Pd} {i : Nat} (hi : i < l.length) : (l.flatMap cP)[i * 3]? = some (.int .i64 (l.getD i default).seed) := flatMap_get cP_len default (k := 0) hi (by omega)
theorem get_P1 {l : List Pd} {i : Nat} (hi : i < l.length) : (l.flatMap cP)[i * 3 + 1]? = some (.int .i64 (l.getD i default).seg) := flatMap_get cP_len default (k := 1) hi (by omega)
theorem get_P2 {l : List Pd} {i : Nat} (hi : i < l.length) : (l.flatMap cP)[i * 3 + 2]? = some (eI (l.getD i default).marks) := flatMap_get cP_len default (k := 2) hi (by omega)
theorem one_ePS {l : Option (List Pd)} : one (ePS l) = true := by cases l <;> rfl
theorem cellsOf_ePS {l : Option (List Pd)} : cellsOf (ePS l) = [ePS l] := by cases l <;> rfl
theorem free_cP {p : Pd} : ∀ c ∈ cP p, Free c := free_cons_ free_int (free_cons_ free_int (free_cons_ free_eI free_nil_))
theorem free_eP {p : Pd} : Free (eP p) := free_agg free_cP
theorem free_ePS {l : Option (List Pd)} : Free (ePS l) := by
  cases l with
  | none => exact free_nils
  | some l => exact free_ro (fun c hc => by obtain ⟨p, _, hp⟩ := List.mem_flatMap.1 hc; exact free_cP c hp)
theorem ok_ePS {l : Option (List Pd)} (h : OkV (ePS l)) : (lP l).length ≤ 9223372036854775807 := by
  cases l with
  | none => simp [lP]
  | some l => exact h.ro.1
def wPS (a : Option (List Pd)) : Nat := (lP a).length + ((lP a).map fun p => (lI p.marks).length).sum
/-- A copy of it. -/
def cpP (p : Pd) : Pd := ⟨p.seed, p.seg, some (lI p.marks)⟩
def cPc (p : Pd) : List AV := cP (cpP p)
theorem cPc_len (p : Pd) : (cPc p).length = 3 := rfl

attribute [push_cast] lenA_ePS iaddr_ePS eP ld_P get_P0 get_P1 get_P2 cellsOf_ePS one_ePS cP
def rank (l : List Int) (n : Nat) : Nat := (l.take n).countP (fun m => decide (m ≠ 3))
theorem rank_0 {l : List Int} : rank l 0 = 0 := by simp [rank]
theorem rank_le {l : List Int} {n : Nat} : rank l n ≤ n := by
  unfold rank
  have := List.countP_le_length (p := fun m : Int => decide (m ≠ 3)) (l := l.take n)
  have h2 : (l.take n).length ≤ n := by simp; omega
  omega
theorem rank_succ {l : List Int} {n : Nat} (hn : n < l.length) : rank l (n + 1) = rank l n + (if l.getD n 0 = 3 then 0 else 1) := by
  unfold rank
  rw [List.take_add_one, List.countP_append]
  congr 1
  by_cases h : l.getD n 0 = 3
  · have h' : l[n] = 3 := by simpa [hn] using h
    simp [hn, h']
  · have h' : l[n] ≠ 3 := by simpa [hn] using h
    simp [hn, h']
def okMarks (l : List Int) : Bool := l.all fun m => decide (0 ≤ m) && decide (m ≤ 3)
def okPd (p : Pd) : Bool := (decide (0 ≤ p.seed) && decide (p.seed ≤ 9999)) && ((decide (1 ≤ p.seg) && decide (p.seg ≤ 24)) && (decide (((lI p.marks).length : Int) = 3 * p.seg) && okMarks (lI p.marks)))

def sameP (p q : Pd) : Bool := decide (p.seed = q.seed) && (decide (p.seg = q.seg) && decide (lI p.marks = lI q.marks))
theorem sameP_cp (p : Pd) : sameP (cpP p) (cpP p) = true := by simp [sameP]
/-- The first so many are the same. -/
def sameFrom (l m : List Pd) : Nat → Bool
  | 0 => true
  | i + 1 => sameFrom l m i && sameP (l.getD i default) (m.getD i default)
theorem sameFrom_false {l m : List Pd} {i : Nat} : ∀ {j}, i ≤ j → sameFrom l m i = false → sameFrom l m j = false
  | 0, h, hf => by
    rw [show i = 0 by omega] at hf
    exact hf
  | j + 1, h, hf => by
    by_cases hi : i = j + 1
    · rw [← hi]
      exact hf
    · simp [sameFrom, sameFrom_false (show i ≤ j by omega) hf]
def samePS (l m : List Pd) : Bool := decide ((l.length : Int) = m.length) && sameFrom l m l.length
theorem samePS_cp (l : List Pd) : samePS (l.map cpP) (l.map cpP) = true := by
  have : ∀ n, sameFrom (l.map cpP) (l.map cpP) n = true := by
    intro n
    induction n with
    | zero => rfl
    | succ n ih => simp [sameFrom, ih, sameP]
  simp [samePS, this]

--eng eSh
structure Sh_ where
  seed : Int
  parts : Option (List Pd)
  offs : Option (List Int)
def eSh (s : Sh_) : AV := .agg [.int .i64 s.seed, ePS s.parts, eI s.offs]
def cpSh (s : Sh_) : Sh_ := ⟨s.seed, some ((lP s.parts).map cpP), some (lI s.offs)⟩
theorem free_eSh {s : Sh_} : Free (eSh s) := free_agg (free_cons_ free_int (free_cons_ free_ePS (free_cons_ free_eI free_nil_)))
def wSh (s : Sh_) : Nat := wPS s.parts + (lI s.offs).length

attribute [push_cast] eSh
def usedP (p : Pd) : Nat := rank (lI p.marks) (lI p.marks).length
def offAt (l : List Pd) (i : Nat) : Nat := ((l.take i).map usedP).sum
theorem offAt_0 {l : List Pd} : offAt l 0 = 0 := by simp [offAt]
theorem offAt_succ {l : List Pd} {i : Nat} (hi : i < l.length) : offAt l (i + 1) = offAt l i + usedP (l.getD i default) := by
  unfold offAt
  rw [List.take_add_one, List.map_append, List.sum_append]
  simp [hi]
theorem offAt_le {l : List Pd} {w : Nat} (hw : ∀ i, i < l.length → (lI (l.getD i default).marks).length ≤ w) : ∀ i, i ≤ l.length → offAt l i ≤ i * w
  | 0, _ => by simp [offAt_0]
  | i + 1, hi => by
    rw [offAt_succ (by omega), Nat.succ_mul]
    have h1 := offAt_le hw i (by omega)
    have h2 := hw i (by omega)
    have h3 : usedP (l.getD i default) ≤ _ := rank_le
    omega
theorem offAt_ok {l : List Pd} : ∀ i, i ≤ l.length → (l.take i).all okPd = true → offAt l i ≤ i * 72
  | 0, _, _ => by simp [offAt_0]
  | i + 1, hi, h => by
    rw [List.take_add_one, List.all_append, Bool.and_eq_true] at h
    have h0 : i < l.length := by omega
    have h1 := offAt_ok i (by omega) h.1
    have h2 : okPd (l.getD i default) = true := by
      have := h.2
      simp [h0] at this
      simpa [h0] using this
    simp only [okPd, Bool.and_eq_true, decide_eq_true_eq] at h2
    rw [offAt_succ h0]
    have h3 : usedP (l.getD i default) ≤ _ := rank_le
    omega
def offsL (l : List Pd) (i : Nat) : List Int := (List.range i).map fun j => (offAt l j : Int)
theorem offsL_len {l : List Pd} {i : Nat} : (offsL l i).length = i := by simp [offsL]
theorem offsL_succ {l : List Pd} {i : Nat} : offsL l (i + 1) = offsL l i ++ [(offAt l i : Int)] := by simp [offsL, List.range_succ]
def okSh (s : Sh_) : Bool := (decide (0 ≤ s.seed) && decide (s.seed ≤ 9999)) && ((decide (1 ≤ ((lP s.parts).length : Int)) && decide (((lP s.parts).length : Int) ≤ 8)) && ((lP s.parts).all okPd && decide (lI s.offs = offsL (lP s.parts) (lP s.parts).length)))
theorem okPd_len {p : Pd} (h : okPd p = true) : (lI p.marks).length ≤ 72 := by
  simp only [okPd, Bool.and_eq_true, decide_eq_true_eq] at h
  omega

theorem placeV_bd {seed part : Int} {s : Str} {n : Int} (hn : 0 < n) : 0 ≤ placeV seed part s n ∧ placeV seed part s n < n := by
  obtain ⟨h1, h2⟩ := hashV_bd seed part s
  unfold placeV
  have h3 : 0 ≤ hashV seed part s * n := Int.mul_nonneg h1 (by omega)
  have h4 : hashV seed part s * n < 65521 * n := Int.mul_lt_mul_of_pos_right h2 hn
  constructor
  · omega
  · omega
/-- The places of a key. -/
def tri (seed : Int) (key : Str) (seg : Int) (n : Nat) : List Int := (List.range n).map fun j : Nat => placeV seed (j : Int) key seg + (j : Int) * seg
theorem tri_succ {seed : Int} {key : Str} {seg : Int} {n : Nat} : tri seed key seg (n + 1) = tri seed key seg n ++ [placeV seed (n : Int) key seg + (n : Int) * seg] := by simp [tri, List.range_succ]
theorem tri_len {seed : Int} {key : Str} {seg : Int} {n : Nat} : (tri seed key seg n).length = n := by simp [tri]
theorem tri_get {seed : Int} {key : Str} {seg : Int} {n i : Nat} (hi : i < n) : (tri seed key seg n).getD i 0 = placeV seed (i : Int) key seg + (i : Int) * seg := by simp [tri, hi]
theorem tri_bd {seed : Int} {key : Str} {seg : Int} {i : Nat} (hs : 0 < seg) (hi : i < 3) : 0 ≤ (tri seed key seg 3).getD i 0 ∧ (tri seed key seg 3).getD i 0 < 3 * seg := by
  rw [tri_get hi]
  have := placeV_bd (seed := seed) (part := (i : Int)) (s := key) hs
  have h3 : i = 0 ∨ i = 1 ∨ i = 2 := by omega
  rcases h3 with rfl | rfl | rfl <;> omega
def sumAt (m : List Int) (l : List Int) : Int := (l.map fun p => m.getD p.toNat 0).sum
theorem sumAt_take {m l : List Int} {i : Nat} (hi : i < l.length) : sumAt m (l.take (i + 1)) = sumAt m (l.take i) + m.getD (l.getD i 0).toNat 0 := by
  unfold sumAt
  rw [List.take_add_one, List.map_append, List.sum_append]
  simp [hi]
theorem okMarks_get {m : List Int} (h : okMarks m = true) (i : Nat) : 0 ≤ m.getD i 0 ∧ m.getD i 0 ≤ 3 := by
  by_cases hi : i < m.length
  · have := List.all_eq_true.1 h (m.getD i 0) (by simp [hi])
    simp only [Bool.and_eq_true, decide_eq_true_eq] at this
    exact this
  · simp [hi]
theorem sumAt_bd {m : List Int} (h : okMarks m = true) : ∀ l : List Int, 0 ≤ sumAt m l ∧ sumAt m l ≤ 3 * l.length
  | [] => by simp [sumAt]
  | p :: l => by
    have h1 := sumAt_bd h l
    have h2 := okMarks_get h p.toNat
    have h3 : sumAt m (p :: l) = m.getD p.toNat 0 + sumAt m l := by simp [sumAt]
    rw [h3]
    simp only [List.length_cons]
    omega
/-- The place to which a key is led. -/
def leadV (p : Pd) (key : Str) : Int := (tri p.seed key p.seg 3).getD (sumAt (lI p.marks) (tri p.seed key p.seg 3) % 3).toNat 0
structure OkP (p : Pd) : Prop where
  s0 : 0 ≤ p.seed
  s1 : p.seed ≤ 9999
  g0 : 1 ≤ p.seg
  g1 : p.seg ≤ 24
  ml : ((lI p.marks).length : Int) = 3 * p.seg
  mo : okMarks (lI p.marks) = true
theorem okP_of {p : Pd} (h : okPd p = true) : OkP p := by
  simp only [okPd, Bool.and_eq_true, decide_eq_true_eq] at h
  exact ⟨h.1.1, h.1.2, h.2.1.1, h.2.1.2, h.2.2.1, h.2.2.2⟩
theorem leadV_bd {p : Pd} (h : OkP p) (key : Str) : 0 ≤ leadV p key ∧ leadV p key < (lI p.marks).length := by
  have hs := sumAt_bd h.mo (tri p.seed key p.seg 3)
  have := tri_bd (seed := p.seed) (key := key) (seg := p.seg) (i := (sumAt (lI p.marks) (tri p.seed key p.seg 3) % 3).toNat) (by have := h.g0; omega) (by omega)
  have := h.ml
  unfold leadV
  omega

theorem c_laws_pSameInts (a b : Option (List Int)) : Fn Try.prog 45 [eI a, eI b] (· = .bool (decide (lI a = lI b))) := by
  refine Fn.of free_bool fun h => ?_
  refine enter (by kernel_rfl) e45 (by kernel_rfl) rfl fun hok => ?_
  simp only [r45, initEnv_2]
  have ha := ok_eI (okV_0 hok)
  have hb := ok_eI (okV_1 hok)
  (try (simp (disch := first | omega | (simp <;> omega) | fail) only [push_cast, ↓reduceIte, Nat.reduceEqDiff, Nat.reduceAdd, Nat.reduceMul, Nat.reduceSub, Nat.reduceLT, Int.reduceToNat]))
  first | refine goC_split (fun hc => ?_) (fun hc => ?_) | refine cnd_split (fun hc => ?_) (fun hc => ?_)
  · (try (simp only [decide_eq_true_eq, decide_eq_false_iff_not, Bool.not_eq_true', Bool.not_eq_false', Bool.and_eq_true, Bool.or_eq_true, Int.not_lt, Int.not_le] at hc)); (try (simp (disch := first | omega | (simp <;> omega) | fail) only [push_cast, ↓reduceIte, Nat.reduceEqDiff, Nat.reduceAdd, Nat.reduceMul, Nat.reduceSub, Nat.reduceLT, Int.reduceToNat]))
    have : lI a ≠ lI b := fun h => hc (by rw [h])
    rw [decide_eq_false this]
  (try (simp only [decide_eq_true_eq, decide_eq_false_iff_not, Bool.not_eq_true', Bool.not_eq_false', Bool.and_eq_true, Bool.or_eq_true, Int.not_lt, Int.not_le] at hc)); (try (simp (disch := first | omega | (simp <;> omega) | fail) only [push_cast, ↓reduceIte, Nat.reduceEqDiff, Nat.reduceAdd, Nat.reduceMul, Nat.reduceSub, Nat.reduceLT, Int.reduceToNat]))
  have hll : (lI a).length = (lI b).length := by omega
  refine T_for (lI a).length (fun i e h' => Pins e [(0, eI a), (1, eI b), (12, .int .i64 (lI a).length), (13, .int .i64 i)] ∧ h' = h ∧ (lI a).take i = (lI b).take i) ?_ ?_
  · (try (simp (disch := first | omega | (simp <;> omega) | fail) only [push_cast, ↓reduceIte, Nat.reduceEqDiff, Nat.reduceAdd, Nat.reduceMul, Nat.reduceSub, Nat.reduceLT, Int.reduceToNat]))
    all_goals (try simp)
  rintro i e h' hi ⟨hp, rfl, ht⟩
  refine T_pins hp fun e => ?_
  (try (simp (disch := first | omega | (simp <;> omega) | fail) only [push_cast, ↓reduceIte, Nat.reduceEqDiff, Nat.reduceAdd, Nat.reduceMul, Nat.reduceSub, Nat.reduceLT, Int.reduceToNat]))
  first | refine goC_split (fun hd => ?_) (fun hd => ?_) | refine cnd_split (fun hd => ?_) (fun hd => ?_)
  · (try (simp only [decide_eq_true_eq, decide_eq_false_iff_not, Bool.not_eq_true', Bool.not_eq_false', Bool.and_eq_true, Bool.or_eq_true, Int.not_lt, Int.not_le] at hd)); (try (simp (disch := first | omega | (simp <;> omega) | fail) only [push_cast, ↓reduceIte, Nat.reduceEqDiff, Nat.reduceAdd, Nat.reduceMul, Nat.reduceSub, Nat.reduceLT, Int.reduceToNat]))
    have hi2 : i < (lI a).length := by omega
    have hi3 : i < (lI b).length := by omega
    have ha1 : (lI a).take (i + 1) = (lI a).take i ++ [(lI a).getD i 0] := by
      rw [List.take_add_one]
      simp [hi2]
    have hb1 : (lI b).take (i + 1) = (lI b).take i ++ [(lI b).getD i 0] := by
      rw [List.take_add_one]
      simp [hi3]
    (try (simp (disch := first | omega | (simp <;> omega) | fail) only [push_cast, ↓reduceIte, Nat.reduceEqDiff, Nat.reduceAdd, Nat.reduceMul, Nat.reduceSub, Nat.reduceLT, Int.reduceToNat]))
    first | refine goC_split (fun he => ?_) (fun he => ?_) | refine cnd_split (fun he => ?_) (fun he => ?_)
    · (try (simp only [decide_eq_true_eq, decide_eq_false_iff_not, Bool.not_eq_true', Bool.not_eq_false', Bool.and_eq_true, Bool.or_eq_true, Int.not_lt, Int.not_le] at he)); (try (simp (disch := first | omega | (simp <;> omega) | fail) only [push_cast, ↓reduceIte, Nat.reduceEqDiff, Nat.reduceAdd, Nat.reduceMul, Nat.reduceSub, Nat.reduceLT, Int.reduceToNat]))
      have : lI a ≠ lI b := fun h => he (by rw [h])
      rw [decide_eq_false this]
    · (try (simp only [decide_eq_true_eq, decide_eq_false_iff_not, Bool.not_eq_true', Bool.not_eq_false', Bool.and_eq_true, Bool.or_eq_true, Int.not_lt, Int.not_le] at he)); (try (simp (disch := first | omega | (simp <;> omega) | fail) only [push_cast, ↓reduceIte, Nat.reduceEqDiff, Nat.reduceAdd, Nat.reduceMul, Nat.reduceSub, Nat.reduceLT, Int.reduceToNat]))
      rw [ha1, hb1, ht, he]
      (try (simp (disch := first | omega | (simp <;> omega) | fail) only [push_cast, ↓reduceIte, Nat.reduceEqDiff, Nat.reduceAdd, Nat.reduceMul, Nat.reduceSub, Nat.reduceLT, Int.reduceToNat]))
  · (try (simp only [decide_eq_true_eq, decide_eq_false_iff_not, Bool.not_eq_true', Bool.not_eq_false', Bool.and_eq_true, Bool.or_eq_true, Int.not_lt, Int.not_le] at hd)); (try (simp (disch := first | omega | (simp <;> omega) | fail) only [push_cast, ↓reduceIte, Nat.reduceEqDiff, Nat.reduceAdd, Nat.reduceMul, Nat.reduceSub, Nat.reduceLT, Int.reduceToNat]))
    have : lI a = lI b := by
      rw [List.take_of_length_le (by omega), List.take_of_length_le (by omega)] at ht
      exact ht
    rw [decide_eq_true this]

theorem c_impl_SolveSystem_o (s : Sy) : FnO Try.prog 34 [eSy s] (· = solV s) := by
  intro h
  refine enter (by kernel_rfl) e34 (by kernel_rfl) rfl fun hok => ?_
  simp only [r34, initEnv_1]
  (try (simp (disch := first | omega | (simp <;> omega) | fail) only [push_cast, ↓reduceIte, Nat.reduceEqDiff, Nat.reduceAdd, Nat.reduceMul, Nat.reduceSub, Nat.reduceLT, Int.reduceToNat]))
  refine (c_impl_IsSystem s).call ?_
  have hnone : ¬ (okSy s = true ∧ refN s = 0) → ∀ g : H, ∃ t, Ow g [.tup [.agg [.int .i64 0, .nils], .bool false]] [t] (fun c => h.length ≤ c) ∧ t = solV s := fun h0 g => by
    have hv : solV s = .tup [.agg [.int .i64 0, .nils], .bool false] := by
      unfold solV solB solq
      rw [if_neg h0]
      have : (okSy s && decide (refN s = 0)) = false := by
        cases h1 : okSy s
        · rfl
        · have : ¬ refN s = 0 := fun h2 => h0 ⟨h1, h2⟩
          simp [this]
      rw [this]
      rfl
    rw [hv]
    exact ⟨_, (Ow.two (F := fun _ => False) (F' := fun _ => False) (Ow.aggOf (.atom rfl (.atom rfl .nil))) (.atom rfl .nil) (fun _ h => h.elim) (fun _ h => h.elim)).tupOf, rfl⟩
  cases hk : okSy s
  · (try (simp (disch := first | omega | (simp <;> omega) | fail) only [push_cast, ↓reduceIte, Nat.reduceEqDiff, Nat.reduceAdd, Nat.reduceMul, Nat.reduceSub, Nat.reduceLT, Int.reduceToNat]))
    exact hnone (by simp [hk]) _
  obtain ⟨m, ho⟩ := okE_n hk
  have hmm := ho.mm
  (try (simp (disch := first | omega | (simp <;> omega) | fail) only [push_cast, ↓reduceIte, Nat.reduceEqDiff, Nat.reduceAdd, Nat.reduceMul, Nat.reduceSub, Nat.reduceLT, Int.reduceToNat]))
  refine (c_impl_solve_o s m ho).go fun x t h1 hR hx1 how => ?_
  subst hR
  obtain ⟨y, rfl, how2⟩ := ow_tup2 how
  obtain ⟨b, rfl, how3⟩ := ow_bits how2
  have hl1 := hx1.len
  simp only [List.length_append, List.length_cons, List.length_nil] at hl1 how3
  have hb1 : H.cells h1 (h.length + 1) = some [.int .i64 0, .nils] := hx1.cells (by rw [cells_hk]; rfl)
  have hb1' := fun l => cells_app (l := l) hb1
  have hpm : (h.length ≤ h.length + 1) = True := by simp
  by_cases h0 : refN s = 0
  · have hd : decide (refN s = 0) = true := by simp [h0]
    have hv : solV s = .tup [eB ⟨nSy s, some (wordsN (solN s) m)⟩, .bool true] := by
      unfold solV solB solq
      rw [if_pos ⟨hk, h0⟩, hk, hd, ← hmm]
      rfl
    have hw : ∀ (l : H) cs, H.cells (wr (h1 ++ l) (h.length + 1) cs) (h.length + 1) = some cs := fun l cs => cells_wr2 (by simp; omega)
    rw [hd]
    (try (simp (disch := first | omega | (simp <;> omega) | fail) only [push_cast, ↓reduceIte, Nat.reduceEqDiff, Nat.reduceAdd, Nat.reduceMul, Nat.reduceSub, Nat.reduceLT, Int.reduceToNat, hb1', hpm, hw]))
    rw [hv]
    refine ⟨_, (Ow.two (F' := fun _ => False) (Ow.aggOf (how3.frame (h' := wr (h1 ++ _) (h.length + 1) _) fun c hc => ?_)) (.atom rfl .nil) (fun c hc => ?_) (fun _ h => h.elim)).tupOf, rfl⟩
    · have := hc.1
      have := hc.2
      unfold wr
      rw [List.getElem?_set_ne (by omega), List.getElem?_append_left (by omega)]
    · have := hc.1
      omega
  · have hd : decide (refN s = 0) = false := by simp [h0]
    rw [hd]
    (try (simp (disch := first | omega | (simp <;> omega) | fail) only [push_cast, ↓reduceIte, Nat.reduceEqDiff, Nat.reduceAdd, Nat.reduceMul, Nat.reduceSub, Nat.reduceLT, Int.reduceToNat, hb1', hpm]))
    have hw : ∀ (l : H) cs, H.cells (wr (h1 ++ l) (h.length + 1) cs) (h.length + 1) = some cs := fun l cs => cells_wr2 (by simp; omega)
    (try (simp (disch := first | omega | (simp <;> omega) | fail) only [push_cast, ↓reduceIte, Nat.reduceEqDiff, Nat.reduceAdd, Nat.reduceMul, Nat.reduceSub, Nat.reduceLT, Int.reduceToNat, hw]))
    exact hnone (fun h5 => h0 h5.2) _

theorem c_laws_pSameBits (b c : Bt) : Fn Try.prog 46 [eB b, eB c] (· = .bool (decide (b.size = c.size) && decide (lI b.words = lI c.words))) := by
  refine Fn.of free_bool fun h => ?_
  refine enter (by kernel_rfl) e46 (by kernel_rfl) rfl fun hok => ?_
  simp only [r46, initEnv_2]
  (try (simp (disch := first | omega | (simp <;> omega) | fail) only [push_cast, ↓reduceIte, Nat.reduceEqDiff, Nat.reduceAdd, Nat.reduceMul, Nat.reduceSub, Nat.reduceLT, Int.reduceToNat]))
  cases hs : decide (b.size = c.size)
  · (try (simp (disch := first | omega | (simp <;> omega) | fail) only [push_cast, ↓reduceIte, Nat.reduceEqDiff, Nat.reduceAdd, Nat.reduceMul, Nat.reduceSub, Nat.reduceLT, Int.reduceToNat]))
  (try (simp (disch := first | omega | (simp <;> omega) | fail) only [push_cast, ↓reduceIte, Nat.reduceEqDiff, Nat.reduceAdd, Nat.reduceMul, Nat.reduceSub, Nat.reduceLT, Int.reduceToNat]))
  refine (c_laws_pSameInts _ _).call ?_
  (try (simp (disch := first | omega | (simp <;> omega) | fail) only [push_cast, ↓reduceIte, Nat.reduceEqDiff, Nat.reduceAdd, Nat.reduceMul, Nat.reduceSub, Nat.reduceLT, Int.reduceToNat]))

theorem c_impl_BitAt (n m B i : Nat) (hk : okBt ⟨n, some (wordsN B m)⟩ = true) (hm : (((n : Int) + 15) / 16) = (m : Int)) (hi : i < n) (hn : n ≤ 4096) : Fn Try.prog 47 [eB ⟨n, some (wordsN B m)⟩, .int .i64 i] (· = .tup [.bool (B.testBit i), .bool true]) := by
  refine Fn.of (free_tup (free_cons_ free_bool (free_cons_ free_bool free_nil_))) fun h => ?_
  have hfr : ∀ x ∈ [AV.int .i64 (n : Int), eI (some (wordsN B m))], Free x := free_cons_ free_int (free_cons_ free_eI free_nil_)
  have hb := c_impl_IsBits ⟨n, some (wordsN B m)⟩
  rw [hk] at hb
  refine enter (by kernel_rfl) e47 (by kernel_rfl) rfl fun hok => ?_
  simp only [r47, initEnv_2]
  (try (simp (disch := first | omega | (simp <;> omega) | fail) only [push_cast, ↓reduceIte, Nat.reduceEqDiff, Nat.reduceAdd, Nat.reduceMul, Nat.reduceSub, Nat.reduceLT, Int.reduceToNat]))
  refine hb.call ?_
  (try (simp (disch := first | omega | (simp <;> omega) | fail) only [push_cast, ↓reduceIte, Nat.reduceEqDiff, Nat.reduceAdd, Nat.reduceMul, Nat.reduceSub, Nat.reduceLT, Int.reduceToNat]))
  refine (c_impl_in _ _ _).call ?_
  have h1 : (decide ((0 : Int) ≤ (i : Int)) && decide ((i : Int) ≤ (n : Int) - 1)) = true := by
    rw [Bool.and_eq_true, decide_eq_true_eq, decide_eq_true_eq]
    omega
  rw [h1]
  have b1 : H.cells (h ++ [some (.cells [.int .i64 n, eI (some (wordsN B m))])]) h.length = some [.int .i64 n, eI (some (wordsN B m))] := by rw [cells_h0]; rfl
  (try (simp (disch := first | omega | (simp <;> omega) | fail) only [push_cast, ↓reduceIte, Nat.reduceEqDiff, Nat.reduceAdd, Nat.reduceMul, Nat.reduceSub, Nat.reduceLT, Int.reduceToNat]))
  refine (c_impl_Bits_at (some (wordsN B m)) B m i [.int .i64 n, eI (some (wordsN B m))] 0 rfl rfl (by omega) (by omega)).lendL (.adr b1 hfr (.free free_int .nil)) own_bool ?_
  (try (simp (disch := first | omega | (simp <;> omega) | fail) only [push_cast, ↓reduceIte, Nat.reduceEqDiff, Nat.reduceAdd, Nat.reduceMul, Nat.reduceSub, Nat.reduceLT, Int.reduceToNat]))

/-- The first words summed. -/
def xorW (A B m i : Nat) : List Int := (List.range m).map fun k => ((if k < i then wordN A k ^^^ wordN B k else wordN A k : Nat) : Int)
theorem xorW_len {A B m i : Nat} : (xorW A B m i).length = m := by simp [xorW]
theorem xorW_0 {A B m : Nat} : xorW A B m 0 = wordsN A m := by simp [xorW, wordsN]
theorem xorW_all {A B m : Nat} : xorW A B m m = wordsN (A ^^^ B) m := by
  unfold xorW wordsN
  refine List.map_congr_left fun k hk => ?_
  rw [if_pos (List.mem_range.1 hk), wordN_xor]
theorem xorW_get {A B m i : Nat} (hi : i < m) : ((xorW A B m i).map (AV.int .i64))[i]? = some (.int .i64 (wordN A i : Nat)) := by simp [xorW, hi]
theorem xorW_put {A B m i : Nat} (hi : i < m) : over ((xorW A B m i).map (AV.int .i64)) i [.int .i64 ((wordN A i ^^^ wordN B i : Nat) : Int)] = (xorW A B m (i + 1)).map (.int .i64) := by
  rw [over_set (by simp [xorW_len, hi])]
  refine List.ext_getElem? fun k => ?_
  by_cases hk : k < m
  · by_cases h2 : k = i
    · subst h2
      rw [List.getElem?_set_self (by simp [xorW_len, hk])]
      simp [xorW, hk]
    · rw [List.getElem?_set_ne (Ne.symm h2)]
      have : (k < i + 1) = (k < i) := by rw [eq_iff_iff]; omega
      simp [xorW, hk, this]
  · rw [List.getElem?_eq_none (by simp [xorW_len]; omega), List.getElem?_eq_none (by simp [xorW_len]; omega)]

set_option maxHeartbeats 1000000 in
theorem c_impl_XorBits (n m A B : Nat) (ha : okBt ⟨n, some (wordsN A m)⟩ = true) (hb : okBt ⟨n, some (wordsN B m)⟩ = true) (hm : m ≤ 1000) : Fn Try.prog 48 [eB ⟨n, some (wordsN A m)⟩, eB ⟨n, some (wordsN B m)⟩] (· = .tup [eB ⟨n, some (wordsN (A ^^^ B) m)⟩, .bool true]) := by
  refine Fn.froze_ fun h => ?_
  have h1 := c_impl_IsBits ⟨n, some (wordsN A m)⟩
  have h2 := c_impl_IsBits ⟨n, some (wordsN B m)⟩
  rw [ha] at h1
  rw [hb] at h2
  clear ha hb
  have hwl : (wordsN A m).length = m := wordsN_len
  have hbl : (lI (some (wordsN B m))).length = m := wordsN_len
  refine enter (by kernel_rfl) e48 (by kernel_rfl) rfl fun hok => ?_
  simp only [r48, initEnv_2]
  (try (simp (disch := first | omega | (simp <;> omega) | fail) only [push_cast, ↓reduceIte, Nat.reduceEqDiff, Nat.reduceAdd, Nat.reduceMul, Nat.reduceSub, Nat.reduceLT, Int.reduceToNat]))
  refine h1.call ?_
  (try (simp (disch := first | omega | (simp <;> omega) | fail) only [push_cast, ↓reduceIte, Nat.reduceEqDiff, Nat.reduceAdd, Nat.reduceMul, Nat.reduceSub, Nat.reduceLT, Int.reduceToNat]))
  refine h2.call ?_
  (try (simp (disch := first | omega | (simp <;> omega) | fail) only [push_cast, ↓reduceIte, Nat.reduceEqDiff, Nat.reduceAdd, Nat.reduceMul, Nat.reduceSub, Nat.reduceLT, Int.reduceToNat]))
  refine (c_impl_cloneBits_own n (wordsN A m) (by omega) _).mono (fun x h3 hx => ?_) (fun _ _ h => h.elim)
  obtain ⟨bb, rfl, hbb, ⟨p, hp⟩, hcw⟩ := hx
  rw [hwl]
  have hl3 : h.length + 3 ≤ h3.length := by rw [hp]; simp
  have c0 : h3.cells (h.length + 2) = some [.int .i64 0, .nils] := by
    rw [hp]
    refine cells_app ?_
    rw [cells_hk]
    rfl
  have c1 : h3.cells (h.length + 1) = some [.int .i64 n, eI (some (wordsN B m))] := by
    rw [hp]
    refine cells_app ?_
    rw [cells_hk]
    rfl
  simp only [List.length_append, List.length_cons, List.length_nil] at hbb
  have hbl3 := cells_lt hcw
  clear hp
  (try (simp (disch := first | omega | (simp <;> omega) | fail) only [push_cast, ↓reduceIte, Nat.reduceEqDiff, Nat.reduceAdd, Nat.reduceMul, Nat.reduceSub, Nat.reduceLT, Int.reduceToNat, c1, hbl]))
  refine T_for m (fun i e h' => Pins e [(4, .adr (h.length + 2) 0), (6, .adr h3.length 0), (28, eI (some (wordsN B m))), (29, .int .i64 m), (30, .int .i64 i)] ∧ h'.cells (h.length + 2) = some [.int .i64 0, .nils] ∧ h'.cells h3.length = some [.int .i64 n, .sl bb 0 1 m m] ∧ h'.cells bb = some ((xorW A B m i).map (.int .i64))) ?_ ?_
  · (try (simp (disch := first | omega | (simp <;> omega) | fail) only [push_cast, ↓reduceIte, Nat.reduceEqDiff, Nat.reduceAdd, Nat.reduceMul, Nat.reduceSub, Nat.reduceLT, Int.reduceToNat, c1, hbl]))
    all_goals (try exact ⟨cells_app c0, by rw [cells_h0]; rfl, by rw [xorW_0]; exact cells_app hcw⟩)
    all_goals (try exact ⟨c0, by rw [xorW_0]; exact hcw⟩)
  rintro i e h' hi ⟨hp, q1, q2, q3⟩
  refine T_pins hp fun e => ?_
  have l1 := cells_lt q3
  (try (simp (disch := first | omega | (simp <;> omega) | fail) only [push_cast, ↓reduceIte, Nat.reduceEqDiff, Nat.reduceAdd, Nat.reduceMul, Nat.reduceSub, Nat.reduceLT, Int.reduceToNat]))
  first | refine goC_split (fun hc => ?_) (fun hc => ?_) | refine cnd_split (fun hc => ?_) (fun hc => ?_)
  · (try (simp only [decide_eq_true_eq, decide_eq_false_iff_not, Bool.not_eq_true', Bool.not_eq_false', Bool.and_eq_true, Bool.or_eq_true, Int.not_lt, Int.not_le] at hc)); (try (simp (disch := first | omega | (simp <;> omega) | fail) only [push_cast, ↓reduceIte, Nat.reduceEqDiff, Nat.reduceAdd, Nat.reduceMul, Nat.reduceSub, Nat.reduceLT, Int.reduceToNat]))
    have hi2 : i < m := by omega
    have hi3 : i < (lI (some (wordsN B m))).length := by omega
    have hgd : (lI (some (wordsN B m))).getD i 0 = ((wordN B i : Nat) : Int) := wordsN_get hi2
    have hga := xorW_get (A := A) (B := B) hi2
    have hpu := xorW_put (A := A) (B := B) hi2
    have w1 := wordN_lt (B := A) (k := i)
    have w2 := wordN_lt (B := B) (k := i)
    have hxo := bitsI_xor (x := wordN A i) (y := wordN B i) (by omega) (by omega)
    have hln : ((xorW A B m i).map (AV.int .i64)).length = m := by simp [xorW_len]
    have hpm : (h.length ≤ bb) = True := by rw [eq_iff_iff]; exact ⟨fun _ => trivial, fun _ => by omega⟩
    have hwk : ∀ k, k ≠ bb → (wr h' bb ((xorW A B m (i + 1)).map (.int .i64)))[k]? = h'[k]? := fun k hk => by
      unfold wr
      rw [List.getElem?_set_ne (Ne.symm hk)]
    have f1 := cells_keep (hwk (h.length + 2) (by omega)) q1
    have f2 := cells_keep (hwk h3.length (by omega)) q2
    have f3 : (wr h' bb ((xorW A B m (i + 1)).map (.int .i64))).cells bb = some ((xorW A B m (i + 1)).map (.int .i64)) := cells_wr2 l1
    (try (simp (disch := first | omega | (simp <;> omega) | fail) only [push_cast, ↓reduceIte, Nat.reduceEqDiff, Nat.reduceAdd, Nat.reduceMul, Nat.reduceSub, Nat.reduceLT, Int.reduceToNat, hgd, q2, q3, hga, hxo, hpu, hln, hpm]))
    all_goals (try exact ⟨f1, f2, f3⟩)
  · (try (simp only [decide_eq_true_eq, decide_eq_false_iff_not, Bool.not_eq_true', Bool.not_eq_false', Bool.and_eq_true, Bool.or_eq_true, Int.not_lt, Int.not_le] at hc)); (try (simp (disch := first | omega | (simp <;> omega) | fail) only [push_cast, ↓reduceIte, Nat.reduceEqDiff, Nat.reduceAdd, Nat.reduceMul, Nat.reduceSub, Nat.reduceLT, Int.reduceToNat]))
    have hie : i = m := by omega
    subst hie
    rw [xorW_all] at q3
    have hw := cells_wr2 (cells_lt q1) (cs := [AV.int .i64 (n : Int), .sl bb 0 1 i i])
    have hpm : (h.length ≤ h.length + 2) = True := by simp
    (try (simp (disch := first | omega | (simp <;> omega) | fail) only [push_cast, ↓reduceIte, Nat.reduceEqDiff, Nat.reduceAdd, Nat.reduceMul, Nat.reduceSub, Nat.reduceLT, Int.reduceToNat, q1, q2, hpm, hw]))
    refine ⟨.tup [eB ⟨n, some (wordsN (A ^^^ B) i)⟩, .bool true], .tup rfl fun k y t hy ht => ?_, rfl⟩
    rcases k with _ | _ | k
    · simp at hy ht
      subst hy ht
      refine vw_B (by omega) (b := bb) (ws := wordsN (A ^^^ B) i) ?_ wordsN_len
      rw [cells_eq]
      unfold wr
      rw [List.getElem?_set_ne (by omega), ← cells_eq]
      exact q3
    · simp at hy ht
      subst hy ht
      exact .free free_bool
    · simp at hy

theorem c_impl_meets (wa wb : Option (List Int)) (nb : Int) (n m A B : Nat) (hwa : lI wa = wordsN A m) (hwb : lI wb = wordsN B m) (hm : n ≤ 16 * m) (hm2 : m ≤ 1000) : Fn Try.prog 89 [eB ⟨n, wa⟩, eB ⟨nb, wb⟩] (· = .bool (oddN A B n)) := by
  refine Fn.of free_bool fun h => ?_
  have hfa : ∀ x ∈ [AV.int .i64 (n : Int), eI wa], Free x := free_cons_ free_int (free_cons_ free_eI free_nil_)
  have hfb : ∀ x ∈ [AV.int .i64 nb, eI wb], Free x := free_cons_ free_int (free_cons_ free_eI free_nil_)
  refine enter (by kernel_rfl) e89 (by kernel_rfl) rfl fun hok => ?_
  simp only [r89, initEnv_2]
  (try (simp (disch := first | omega | (simp <;> omega) | fail) only [push_cast, ↓reduceIte, Nat.reduceEqDiff, Nat.reduceAdd, Nat.reduceMul, Nat.reduceSub, Nat.reduceLT, Int.reduceToNat]))
  refine T_for n (fun i e h' => Pins e [(2, .adr h.length 0), (3, .adr (h.length + 1) 0), (5, .bool (oddN A B i)), (8, .int .i64 n), (9, .int .i64 i)] ∧ h' = h ++ [some (.cells [.int .i64 n, eI wa]), some (.cells [.int .i64 nb, eI wb])]) ?_ ?_
  · (try (simp (disch := first | omega | (simp <;> omega) | fail) only [push_cast, ↓reduceIte, Nat.reduceEqDiff, Nat.reduceAdd, Nat.reduceMul, Nat.reduceSub, Nat.reduceLT, Int.reduceToNat]))
    all_goals (try rfl)
  rintro i e h' hi ⟨hp, rfl⟩
  refine T_pins hp fun e => ?_
  (try (simp (disch := first | omega | (simp <;> omega) | fail) only [push_cast, ↓reduceIte, Nat.reduceEqDiff, Nat.reduceAdd, Nat.reduceMul, Nat.reduceSub, Nat.reduceLT, Int.reduceToNat]))
  first | refine goC_split (fun hc => ?_) (fun hc => ?_) | refine cnd_split (fun hc => ?_) (fun hc => ?_)
  · (try (simp only [decide_eq_true_eq, decide_eq_false_iff_not, Bool.not_eq_true', Bool.not_eq_false', Bool.and_eq_true, Bool.or_eq_true, Int.not_lt, Int.not_le] at hc)); (try (simp (disch := first | omega | (simp <;> omega) | fail) only [push_cast, ↓reduceIte, Nat.reduceEqDiff, Nat.reduceAdd, Nat.reduceMul, Nat.reduceSub, Nat.reduceLT, Int.reduceToNat]))
    have hin : i < n := by omega
    have hst : oddN A B (i + 1) = (oddN A B i != (A.testBit i && B.testBit i)) := rfl
    have b1 : H.cells (h ++ [some (.cells [.int .i64 n, eI wa]), some (.cells [.int .i64 nb, eI wb])]) h.length = some [.int .i64 n, eI wa] := by rw [cells_h0]; rfl
    have b2 : H.cells (h ++ [some (.cells [.int .i64 n, eI wa]), some (.cells [.int .i64 nb, eI wb])]) (h.length + 1) = some [.int .i64 nb, eI wb] := by rw [cells_hk]; rfl
    (try (simp (disch := first | omega | (simp <;> omega) | fail) only [push_cast, ↓reduceIte, Nat.reduceEqDiff, Nat.reduceAdd, Nat.reduceMul, Nat.reduceSub, Nat.reduceLT, Int.reduceToNat]))
    refine (c_impl_Bits_at wa A m i [.int .i64 n, eI wa] 0 rfl hwa (by omega) (by omega)).lendL (.adr b1 hfa (.free free_int .nil)) own_bool ?_
    cases ha : A.testBit i
    · rw [ha] at hst
      have h2 : (oddN A B i == false) = !oddN A B i := by cases oddN A B i <;> rfl
      have h3 : oddN A B (i + 1) = oddN A B i := by rw [hst]; cases oddN A B i <;> rfl
      (try (simp (disch := first | omega | (simp <;> omega) | fail) only [push_cast, ↓reduceIte, Nat.reduceEqDiff, Nat.reduceAdd, Nat.reduceMul, Nat.reduceSub, Nat.reduceLT, Int.reduceToNat, h2]))
      all_goals (try rw [h3])
      cases hq : oddN A B i
      · (try (simp (disch := first | omega | (simp <;> omega) | fail) only [push_cast, ↓reduceIte, Nat.reduceEqDiff, Nat.reduceAdd, Nat.reduceMul, Nat.reduceSub, Nat.reduceLT, Int.reduceToNat, hq]))
        all_goals (try rw [h3, hq])
      · (try (simp (disch := first | omega | (simp <;> omega) | fail) only [push_cast, ↓reduceIte, Nat.reduceEqDiff, Nat.reduceAdd, Nat.reduceMul, Nat.reduceSub, Nat.reduceLT, Int.reduceToNat, hq]))
        all_goals (try rw [h3, hq])
    · rw [ha] at hst
      (try (simp (disch := first | omega | (simp <;> omega) | fail) only [push_cast, ↓reduceIte, Nat.reduceEqDiff, Nat.reduceAdd, Nat.reduceMul, Nat.reduceSub, Nat.reduceLT, Int.reduceToNat]))
      refine (c_impl_Bits_at wb B m i [.int .i64 nb, eI wb] 0 rfl hwb (by omega) (by omega)).lendL (.adr b2 hfb (.free free_int .nil)) own_bool ?_
      cases hq : oddN A B i
      · rw [hq] at hst
        cases hb : B.testBit i
        · rw [hb] at hst
          (try (simp (disch := first | omega | (simp <;> omega) | fail) only [push_cast, ↓reduceIte, Nat.reduceEqDiff, Nat.reduceAdd, Nat.reduceMul, Nat.reduceSub, Nat.reduceLT, Int.reduceToNat, hq]))
          all_goals (try (rw [hst]; rfl))
        · rw [hb] at hst
          (try (simp (disch := first | omega | (simp <;> omega) | fail) only [push_cast, ↓reduceIte, Nat.reduceEqDiff, Nat.reduceAdd, Nat.reduceMul, Nat.reduceSub, Nat.reduceLT, Int.reduceToNat, hq]))
          all_goals (try (rw [hst]; rfl))
      · rw [hq] at hst
        cases hb : B.testBit i
        · rw [hb] at hst
          (try (simp (disch := first | omega | (simp <;> omega) | fail) only [push_cast, ↓reduceIte, Nat.reduceEqDiff, Nat.reduceAdd, Nat.reduceMul, Nat.reduceSub, Nat.reduceLT, Int.reduceToNat, hq]))
          all_goals (try (rw [hst]; rfl))
        · rw [hb] at hst
          (try (simp (disch := first | omega | (simp <;> omega) | fail) only [push_cast, ↓reduceIte, Nat.reduceEqDiff, Nat.reduceAdd, Nat.reduceMul, Nat.reduceSub, Nat.reduceLT, Int.reduceToNat, hq]))
          all_goals (try (rw [hst]; rfl))
  · (try (simp only [decide_eq_true_eq, decide_eq_false_iff_not, Bool.not_eq_true', Bool.not_eq_false', Bool.and_eq_true, Bool.or_eq_true, Int.not_lt, Int.not_le] at hc)); (try (simp (disch := first | omega | (simp <;> omega) | fail) only [push_cast, ↓reduceIte, Nat.reduceEqDiff, Nat.reduceAdd, Nat.reduceMul, Nat.reduceSub, Nat.reduceLT, Int.reduceToNat]))
    have hin : i = n := by omega
    subst hin
    (try (simp (disch := first | omega | (simp <;> omega) | fail) only [push_cast, ↓reduceIte, Nat.reduceEqDiff, Nat.reduceAdd, Nat.reduceMul, Nat.reduceSub, Nat.reduceLT, Int.reduceToNat]))

def satB (s : Sy) (X : Nat) : Bool := (List.range (lB s.rows).length).all fun i => decide (oddN (rowB s i) X (nSy s) = (lO s.right).getD i false)
def isolV (s : Sy) (b : Bt) : AV := if okSy s && okBt b then (if b.size = s.size then .tup [.bool (satB s (numW (lI b.words))), .bool true] else .tup [.bool false, .bool true]) else .tup [.bool false, .bool false]
theorem isolV_tup (s : Sy) (b : Bt) : ∃ p q, isolV s b = .tup [.bool p, .bool q] := by
  unfold isolV
  split
  · split <;> exact ⟨_, _, rfl⟩
  · exact ⟨_, _, rfl⟩
theorem free_isolV {s : Sy} {b : Bt} : Free (isolV s b) := by
  obtain ⟨p, q, h⟩ := isolV_tup s b
  rw [h]
  exact free_tup (free_cons_ free_bool (free_cons_ free_bool free_nil_))
theorem satB_no {s : Sy} {X i : Nat} (hi : i < (lB s.rows).length) (h : oddN (rowB s i) X (nSy s) ≠ (lO s.right).getD i false) : satB s X = false := by
  unfold satB
  rw [List.all_eq_false]
  exact ⟨i, List.mem_range.2 hi, by simpa using h⟩
theorem satB_yes {s : Sy} {X : Nat} (h : ∀ i, i < (lB s.rows).length → oddN (rowB s i) X (nSy s) = (lO s.right).getD i false) : satB s X = true := by
  unfold satB
  rw [List.all_eq_true]
  intro i hi
  simpa using h i (List.mem_range.1 hi)
theorem satB_all {s : Sy} {X : Nat} (h : satB s X = true) : ∀ i, i < (lB s.rows).length → oddN (rowB s i) X (nSy s) = (lO s.right).getD i false := fun i hi => by
  have := List.all_eq_true.1 h i (List.mem_range.2 hi)
  simpa using this

theorem c_impl_IsSolution (s : Sy) (b : Bt) : Fn Try.prog 49 [eSy s, eB b] (· = isolV s b) := by
  refine Fn.of free_isolV fun h => ?_
  have hz : okSy s = false → isolV s b = .tup [.bool false, .bool false] := fun h0 => by
    unfold isolV
    rw [h0]
    rfl
  have hz2 : okBt b = false → isolV s b = .tup [.bool false, .bool false] := fun h0 => by
    unfold isolV
    rw [h0, Bool.and_false]
    rfl
  refine enter (by kernel_rfl) e49 (by kernel_rfl) rfl fun hok => ?_
  simp only [r49, initEnv_2]
  (try (simp (disch := first | omega | (simp <;> omega) | fail) only [push_cast, ↓reduceIte, Nat.reduceEqDiff, Nat.reduceAdd, Nat.reduceMul, Nat.reduceSub, Nat.reduceLT, Int.reduceToNat]))
  refine (c_impl_IsSystem s).call ?_
  cases hk : okSy s
  · rw [hz hk]
    (try (simp (disch := first | omega | (simp <;> omega) | fail) only [push_cast, ↓reduceIte, Nat.reduceEqDiff, Nat.reduceAdd, Nat.reduceMul, Nat.reduceSub, Nat.reduceLT, Int.reduceToNat]))
  (try (simp (disch := first | omega | (simp <;> omega) | fail) only [push_cast, ↓reduceIte, Nat.reduceEqDiff, Nat.reduceAdd, Nat.reduceMul, Nat.reduceSub, Nat.reduceLT, Int.reduceToNat]))
  refine (c_impl_IsBits b).call ?_
  cases hkb : okBt b
  · rw [hz2 hkb]
    (try (simp (disch := first | omega | (simp <;> omega) | fail) only [push_cast, ↓reduceIte, Nat.reduceEqDiff, Nat.reduceAdd, Nat.reduceMul, Nat.reduceSub, Nat.reduceLT, Int.reduceToNat]))
  have hv : isolV s b = if b.size = s.size then .tup [.bool (satB s (numW (lI b.words))), .bool true] else .tup [.bool false, .bool true] := by
    unfold isolV
    rw [hk, hkb]
    rfl
  obtain ⟨m, ho⟩ := okE_n hk
  obtain ⟨q1, q2, q3, q4⟩ := okBt_num hkb
  have hsz := ho.sz
  have hn1 := ho.n1
  have hn2 := ho.n2
  have hm := ho.hm
  have hnr := ho.nr
  have hlr := ho.lr
  rw [hv]
  clear hv hz hz2
  by_cases he : b.size = (nSy s : Int)
  · have he2 : b.size = s.size := by rw [hsz]; exact he
    rw [if_pos he2]
    have hwl : (lI b.words).length = m := by omega
    rw [hwl] at q1
    have hyes := fun h => satB_yes (s := s) (X := numW (lI b.words)) h
    have hno := fun i hi h => satB_no (s := s) (X := numW (lI b.words)) (i := i) hi h
    generalize numW (lI b.words) = X at *
    have hodd := fun i (hi : i < (lB s.rows).length) => c_impl_meets ((lB s.rows).getD i default).words b.words b.size (nSy s) m (rowB s i) X (ho.w i hi).1 q1 (by omega) (by omega)
    have hrow : ∀ i, i < (lB s.rows).length → ((lB s.rows).getD i default).size = (nSy s : Int) := fun i hi => (ho.w i hi).2
    (try (simp (disch := first | omega | (simp <;> omega) | fail) only [push_cast, ↓reduceIte, Nat.reduceEqDiff, Nat.reduceAdd, Nat.reduceMul, Nat.reduceSub, Nat.reduceLT, Int.reduceToNat, hsz, he]))
    refine T_for (lB s.rows).length (fun i e h' => Pins e [(2, .adr h.length 0), (3, .adr (h.length + 1) 0), (22, eBS s.rows), (23, .int .i64 (lB s.rows).length), (24, .int .i64 i)] ∧ h'.cells h.length = some [.int .i64 (nSy s), eBS s.rows, eO s.right] ∧ h'.cells (h.length + 1) = some [.int .i64 (nSy s), eI b.words] ∧ ∀ j, j < i → oddN (rowB s j) X (nSy s) = (lO s.right).getD j false) ?_ ?_
    · (try (simp (disch := first | omega | (simp <;> omega) | fail) only [push_cast, ↓reduceIte, Nat.reduceEqDiff, Nat.reduceAdd, Nat.reduceMul, Nat.reduceSub, Nat.reduceLT, Int.reduceToNat, hsz, he]))
      all_goals (try exact ⟨by rw [cells_h0]; rfl, by rw [cells_hk]; rfl, fun j hj => by omega⟩)
      all_goals (try exact fun j hj => by omega)
    rintro i e h' hi ⟨hp, b1, b2, ha⟩
    refine T_pins hp fun e => ?_
    have hbl := cells_lt b1
    have hbl2 := cells_lt b2
    (try (simp (disch := first | omega | (simp <;> omega) | fail) only [push_cast, ↓reduceIte, Nat.reduceEqDiff, Nat.reduceAdd, Nat.reduceMul, Nat.reduceSub, Nat.reduceLT, Int.reduceToNat]))
    first | refine goC_split (fun hc => ?_) (fun hc => ?_) | refine cnd_split (fun hc => ?_) (fun hc => ?_)
    · (try (simp only [decide_eq_true_eq, decide_eq_false_iff_not, Bool.not_eq_true', Bool.not_eq_false', Bool.and_eq_true, Bool.or_eq_true, Int.not_lt, Int.not_le] at hc)); (try (simp (disch := first | omega | (simp <;> omega) | fail) only [push_cast, ↓reduceIte, Nat.reduceEqDiff, Nat.reduceAdd, Nat.reduceMul, Nat.reduceSub, Nat.reduceLT, Int.reduceToNat]))
      have hi2 : i < (lB s.rows).length := by omega
      have hi3 : i < (lO s.right).length := by omega
      have hr := hrow i hi2
      have ho2 := hodd i hi2
      rw [he] at ho2
      have b1' := cells_app (l := [some (.cells [AV.int .i64 (nSy s : Int), eI ((lB s.rows).getD i default).words])]) b1
      have b2' := cells_app (l := [some (.cells [AV.int .i64 (nSy s : Int), eI ((lB s.rows).getD i default).words])]) b2
      (try (simp (disch := first | omega | (simp <;> omega) | fail) only [push_cast, ↓reduceIte, Nat.reduceEqDiff, Nat.reduceAdd, Nat.reduceMul, Nat.reduceSub, Nat.reduceLT, Int.reduceToNat, hr, b1, b2, reads, List.mem_cons, List.mem_append, List.not_mem_nil, nat_ff, or_self, or_false, false_or, not_false_eq_true]))
      refine ho2.call ?_
      by_cases hq : oddN (rowB s i) X (nSy s) = (lO s.right).getD i false
      · have hq2 : (oddN (rowB s i) X (nSy s) == (lO s.right).getD i false) = true := by rw [hq]; simp
        (try (simp (disch := first | omega | (simp <;> omega) | fail) only [push_cast, ↓reduceIte, Nat.reduceEqDiff, Nat.reduceAdd, Nat.reduceMul, Nat.reduceSub, Nat.reduceLT, Int.reduceToNat, hq2, reads, List.mem_cons, List.mem_append, List.not_mem_nil, nat_ff, or_self, or_false, false_or, not_false_eq_true]))
        all_goals (try exact ⟨b1', b2', fun j hj => by
          by_cases hji : j = i
          · rw [hji]; exact hq
          · exact ha j (by omega)⟩)
        all_goals (try exact ⟨b1, b2, fun j hj => by
          by_cases hji : j = i
          · rw [hji]; exact hq
          · exact ha j (by omega)⟩)
      · have hq2 : (oddN (rowB s i) X (nSy s) == (lO s.right).getD i false) = false := by simpa using hq
        rw [hno i hi2 hq]
        (try (simp (disch := first | omega | (simp <;> omega) | fail) only [push_cast, ↓reduceIte, Nat.reduceEqDiff, Nat.reduceAdd, Nat.reduceMul, Nat.reduceSub, Nat.reduceLT, Int.reduceToNat, hq2, reads, List.mem_cons, List.mem_append, List.not_mem_nil, nat_ff, or_self, or_false, false_or, not_false_eq_true]))
    · (try (simp only [decide_eq_true_eq, decide_eq_false_iff_not, Bool.not_eq_true', Bool.not_eq_false', Bool.and_eq_true, Bool.or_eq_true, Int.not_lt, Int.not_le] at hc)); (try (simp (disch := first | omega | (simp <;> omega) | fail) only [push_cast, ↓reduceIte, Nat.reduceEqDiff, Nat.reduceAdd, Nat.reduceMul, Nat.reduceSub, Nat.reduceLT, Int.reduceToNat]))
      have hie : i = (lB s.rows).length := by omega
      subst hie
      rw [hyes ha]
      (try (simp (disch := first | omega | (simp <;> omega) | fail) only [push_cast, ↓reduceIte, Nat.reduceEqDiff, Nat.reduceAdd, Nat.reduceMul, Nat.reduceSub, Nat.reduceLT, Int.reduceToNat]))
  · have he2 : b.size ≠ s.size := by rw [hsz]; exact he
    rw [if_neg he2]
    (try (simp (disch := first | omega | (simp <;> omega) | fail) only [push_cast, ↓reduceIte, Nat.reduceEqDiff, Nat.reduceAdd, Nat.reduceMul, Nat.reduceSub, Nat.reduceLT, Int.reduceToNat, hsz, he]))

def refO (s : Sy) : Option (List Int) := if okSy s then optL (setL (ofN (nSy s) (refN s))) else none
def refOV (s : Sy) : AV := .tup [eI (refO s), .bool (decide (0 < (lI (refO s)).length))]
theorem free_refOV {s : Sy} : Free (refOV s) := free_tup (free_cons_ free_eI (free_cons_ free_bool free_nil_))
theorem refO_len {s : Sy} : (lI (refO s)).length ≤ 64 := by
  unfold refO
  split
  · rw [lI_optL]
    exact setL_len
  · simp [lI]
theorem refO_zero {s : Sy} {m : Nat} (ho : OkE s (nSy s) m) (hk : okSy s = true) : refN s = 0 ↔ refO s = none := by
  have h1 : (setL (ofN (nSy s) (refN s))).length = 0 ↔ refN s = 0 := (ho.msk (i := (lB s.rows).length) (Nat.le_refl _)).none (by have := ho.nr; omega)
  unfold refO
  rw [if_pos hk]
  unfold optL
  constructor
  · intro h0
    have := h1.2 h0
    rw [if_pos (List.eq_nil_of_length_eq_zero this)]
  · intro h0
    split at h0
    · rename_i hs
      refine h1.1 ?_
      rw [hs]
      rfl
    · cases h0

/-! ### what elimination keeps: each row is a sum of lines, the refusal is a sum of rows -/
def Rep (n : Nat) (L : List Nat) (e : Nat) : Prop := ∃ v, Sp L v ∧ ∀ j, j ≤ n → e.testBit j = v.testBit j
structure Elim (n : Nat) (es : List Nat) (p : List Nat × Nat) : Prop where
  rep : p.2 = 0 → ∀ e ∈ es, Rep n p.1 e
  sub : ∀ l ∈ p.1, Sp es l
  ref : p.2 ≠ 0 → Sp es p.2 ∧ (∀ j, j < n → p.2.testBit j = false) ∧ p.2.testBit n = true
theorem Elim.nil {n : Nat} : Elim n [] ([], 0) := ⟨fun _ e h => (by cases h), fun l h => (by cases h), fun h => absurd rfl h⟩
theorem Elim.step {n e : Nat} {es : List Nat} {p : List Nat × Nat} (h : Elim n es p) : Elim n (es ++ [e]) (M.stepS n p e) := by
  obtain ⟨L, R⟩ := p
  obtain ⟨u, hu, hr⟩ := redS_span (n := n) (L := L) (x := e)
  have hue : Sp (es ++ [e]) (redS n L e) := by
    rw [hr]
    exact (Sp.mem (List.mem_append_right _ (by simp))).xor (hu.sub fun l hl => (h.sub l hl).app)
  have hex : e = u ^^^ redS n L e := by
    rw [hr, Nat.xor_comm e u, ← Nat.xor_assoc, Nat.xor_self, Nat.zero_xor]
  by_cases h1 : lead n (redS n L e) < n
  · have hs : M.stepS n (L, R) e = (L ++ [redS n L e], R) := by
      unfold M.stepS
      rw [if_pos h1]
    rw [hs]
    refine ⟨fun h0 x hx => ?_, fun l hl => ?_, fun h0 => ?_⟩
    · rcases List.mem_append.1 hx with hx | hx
      · obtain ⟨v, hv, hb⟩ := h.rep h0 x hx
        exact ⟨v, hv.app, hb⟩
      · rw [List.mem_singleton] at hx
        subst hx
        refine ⟨x, ?_, fun _ _ => rfl⟩
        have hsp : Sp (L ++ [redS n L x]) (u ^^^ redS n L x) := hu.app.xor (Sp.mem (List.mem_append_right _ (by simp)))
        rw [hex.symm] at hsp
        exact hsp
    · rcases List.mem_append.1 hl with hl | hl
      · exact (h.sub l hl).app
      · rw [List.mem_singleton] at hl
        subst hl
        exact hue
    · obtain ⟨r1, r2, r3⟩ := h.ref h0
      exact ⟨r1.app, r2, r3⟩
  · have hl : lead n (redS n L e) = n := Nat.le_antisymm lead_le (by omega)
    by_cases h2 : (redS n L e).testBit n = true ∧ R = 0
    · have hs : M.stepS n (L, R) e = (L, redS n L e) := by
        unfold M.stepS
        rw [if_neg h1, if_pos h2]
      rw [hs]
      have hne : redS n L e ≠ 0 := fun h5 => by
        rw [h5] at h2
        simp at h2
      exact ⟨fun h0 => absurd h0 hne, fun l hl => (h.sub l hl).app, fun _ => ⟨hue, fun j hj => lead_none hl hj, h2.1⟩⟩
    · have hs : M.stepS n (L, R) e = (L, R) := by
        unfold M.stepS
        rw [if_neg h1, if_neg h2]
      rw [hs]
      refine ⟨fun h0 x hx => ?_, fun l hl => (h.sub l hl).app, fun h0 => ?_⟩
      · rcases List.mem_append.1 hx with hx | hx
        · exact h.rep h0 x hx
        · rw [List.mem_singleton] at hx
          subst hx
          have hb : (redS n L x).testBit n = false := by
            cases hh : (redS n L x).testBit n
            · rfl
            · exact absurd ⟨hh, h0⟩ h2
          refine ⟨u, hu, fun j hj => ?_⟩
          have hz : (redS n L x).testBit j = false := by
            by_cases hjn : j = n
            · rw [hjn]
              exact hb
            · exact lead_none hl (by omega)
          have := congrArg (fun y => Nat.testBit y j) hex
          simp only [Nat.testBit_xor, hz, Bool.xor_false] at this
          exact this
      · obtain ⟨r1, r2, r3⟩ := h.ref h0
        exact ⟨r1.app, r2, r3⟩
theorem elim_fold {n : Nat} : ∀ {fs es : List Nat} {p : List Nat × Nat}, Elim n es p → Elim n (es ++ fs) (fs.foldl (M.stepS n) p)
  | [], es, p, h => by simpa using h
  | f :: fs, es, p, h => by
    have := elim_fold (fs := fs) (h.step (e := f))
    rwa [List.append_assoc] at this
def rowsE (s : Sy) : List Nat := (List.range (lB s.rows).length).map (rowE s (nSy s))
theorem elim_s (s : Sy) : Elim (nSy s) (rowsE s) (linS s, refN s) := by
  have := elim_fold (n := nSy s) (fs := rowsE s) Elim.nil
  rw [List.nil_append] at this
  exact this
theorem rowE_low {s : Sy} {m : Nat} (ho : OkE s (nSy s) m) {i : Nat} (hi : i < (lB s.rows).length) {j : Nat} (hj : j < nSy s) : (rowE s (nSy s) i).testBit j = (rowB s i).testBit j := by
  have := congrArg (fun y => Nat.testBit y j) (rowE_row (n := nSy s) (ho.lt i hi))
  simpa [hj] using this
/-- What a sum of rows says of a vector: whether it meets it oddly, and the right side. -/
def SatS (s : Sy) (x : Nat) : Prop := ∀ i, i < (lB s.rows).length → oddN (rowB s i) x (nSy s) = (lO s.right).getD i false
theorem satS_rows {s : Sy} {m : Nat} (ho : OkE s (nSy s) m) {x : Nat} (hx : SatS s x) : ∀ e ∈ rowsE s, oddN e x (nSy s) = rgt true (nSy s) e := by
  intro e he
  obtain ⟨i, hi, rfl⟩ := List.mem_map.1 he
  rw [List.mem_range] at hi
  have h1 : oddN (rowE s (nSy s) i) x (nSy s) = oddN (rowB s i) x (nSy s) := oddN_congr fun j hj => by rw [rowE_low ho hi hj]
  rw [h1, hx i hi]
  unfold rgt
  rw [rowE_right (ho.lt i hi)]
  rfl
/-- A solution that is told solves. -/
theorem sol_sat {s : Sy} {m : Nat} (ho : OkE s (nSy s) m) (h0 : refN s = 0) : SatS s (solN s) := by
  intro i hi
  have hE := elim_s s
  obtain ⟨v, hv, hb⟩ := hE.rep h0 (rowE s (nSy s) i) (List.mem_map.2 ⟨i, List.mem_range.2 hi, rfl⟩)
  have hl : ∀ l ∈ linS s, oddN l (solN s) (nSy s) = rgt true (nSy s) l := fun l hl =>
    fillS_sat (lin_sim s).es (fun l _ => by simp) (Nat.le_refl _) l hl (by omega)
  have h1 := Sp.sat hl hv
  have h2 : oddN (rowB s i) (solN s) (nSy s) = oddN v (solN s) (nSy s) := oddN_congr fun j hj => by
    rw [← rowE_low ho hi hj, hb j (by omega)]
  rw [h2, h1]
  unfold rgt
  rw [← hb (nSy s) (Nat.le_refl _), rowE_right (ho.lt i hi)]
  rfl
/-- What is solved is not refused. -/
theorem sat_ref {s : Sy} {m : Nat} (ho : OkE s (nSy s) m) {x : Nat} (hx : SatS s x) : refN s = 0 := by
  by_cases h0 : refN s = 0
  · exact h0
  · obtain ⟨h1, h2, h3⟩ := (elim_s s).ref h0
    have h4 := Sp.sat (satS_rows ho hx) h1
    have h5 : oddN (refN s) x (nSy s) = false := oddN_none fun j hj => by
      have : (refN s).testBit j = false := h2 j hj
      rw [this, Bool.false_and]
    rw [h5] at h4
    unfold rgt at h4
    have h3' : (refN s).testBit (nSy s) = true := h3
    rw [h3'] at h4
    cases h4
/-! ### the rows that a sum is made of -/
def sumM (f : Nat → Nat) (M : Nat) : Nat → Nat
  | 0 => 0
  | w + 1 => sumM f M w ^^^ (if M.testBit w then f w else 0)
def sumQ (f : Nat → Bool) (M : Nat) : Nat → Bool
  | 0 => false
  | w + 1 => (sumQ f M w) != (M.testBit w && f w)
theorem sumM_flip {f : Nat → Nat} {M i : Nat} : ∀ {w : Nat}, sumM f (M ^^^ 2 ^ i) w = sumM f M w ^^^ (if i < w then f i else 0)
  | 0 => by simp [sumM]
  | w + 1 => by
    rw [sumM, sumM, sumM_flip, Nat.testBit_xor, Nat.testBit_two_pow]
    refine Nat.eq_of_testBit_eq fun j => ?_
    simp only [Nat.testBit_xor]
    by_cases h1 : i = w
    · subst h1
      cases M.testBit i <;> simp
    · by_cases h2 : i < w
      · have h3 : i < w + 1 := by omega
        cases M.testBit w <;> simp [h1, h2, h3]
        cases (f w).testBit j <;> cases (f i).testBit j <;> cases (sumM f M w).testBit j <;> rfl
      · have h3 : ¬ i < w + 1 := by omega
        cases M.testBit w <;> simp [h1, h2, h3]
theorem sumQ_flip {f : Nat → Bool} {M i : Nat} : ∀ {w : Nat}, sumQ f (M ^^^ 2 ^ i) w = (sumQ f M w != (decide (i < w) && f i))
  | 0 => by simp [sumQ]
  | w + 1 => by
    rw [sumQ, sumQ, sumQ_flip, Nat.testBit_xor, Nat.testBit_two_pow]
    by_cases h1 : i = w
    · subst h1
      have : decide (i < i) = false := by simp
      rw [this]
      cases M.testBit i <;> cases f i <;> cases sumQ f M i <;> simp
    · by_cases h2 : i < w
      · have h3 : i < w + 1 := by omega
        cases M.testBit w <;> cases f i <;> cases f w <;> cases sumQ f M w <;> simp [h1, h2, h3]
      · have h3 : ¬ i < w + 1 := by omega
        cases M.testBit w <;> cases f i <;> cases f w <;> cases sumQ f M w <;> simp [h1, h2, h3]
theorem setL_fold {β : Type} {g : β → Nat → β} {M : Nat} {b : β} : (setL M).foldl (fun r i => g r i.toNat) b = (List.range 64).foldl (fun r i => if M.testBit i then g r i else r) b := by
  unfold setL
  rw [List.foldl_map, List.foldl_filter]
  congr 1
theorem sumB_set {s : Sy} {M : Nat} : sumB s (setL M) = sumM (rowB s) M 64 := by
  have key : ∀ w, (List.range w).foldl (fun r i => if M.testBit i then r ^^^ rowB s i else r) 0 = sumM (rowB s) M w := by
    intro w
    induction w with
    | zero => rfl
    | succ w ih =>
      rw [List.range_succ, List.foldl_append, ih]
      simp only [List.foldl_cons, List.foldl_nil, sumM]
      cases M.testBit w <;> simp
  unfold sumB
  rw [setL_fold (g := fun r i => r ^^^ rowB s i), key]
theorem sumR_set {s : Sy} {M : Nat} : sumR s (setL M) = sumQ (fun i => (lO s.right).getD i false) M 64 := by
  have key : ∀ w, (List.range w).foldl (fun r i => if M.testBit i then r != (lO s.right).getD i false else r) false = sumQ (fun i => (lO s.right).getD i false) M w := by
    intro w
    induction w with
    | zero => rfl
    | succ w ih =>
      rw [List.range_succ, List.foldl_append, ih]
      simp only [List.foldl_cons, List.foldl_nil, sumQ]
      cases M.testBit w <;> simp
  unfold sumR
  rw [setL_fold (g := fun r i => r != (lO s.right).getD i false), key]
/-- A sum of rows tells in its high bits which rows it is made of. -/
theorem sp_sum {s : Sy} {m : Nat} (ho : OkE s (nSy s) m) {X : Nat} (hX : Sp (rowsE s) X) : (∀ j, j < nSy s → X.testBit j = (sumB s (setL (ofN (nSy s) X))).testBit j) ∧ X.testBit (nSy s) = sumR s (setL (ofN (nSy s) X)) ∧ ∀ i, (lB s.rows).length ≤ i → (ofN (nSy s) X).testBit i = false := by
  have hnr := ho.nr
  induction hX with
  | zero =>
    have h0 : ofN (nSy s) 0 = 0 := by simp [ofN]
    rw [h0, sumB_set, sumR_set]
    have hz : ∀ w, sumM (rowB s) 0 w = 0 := fun w => by
      induction w with
      | zero => rfl
      | succ w ih => simp [sumM, ih]
    have hz2 : ∀ w, sumQ (fun i => (lO s.right).getD i false) 0 w = false := fun w => by
      induction w with
      | zero => rfl
      | succ w ih =>
        rw [sumQ, ih]
        simp
    rw [hz, hz2]
    simp
  | @add v x hv hx ih =>
    obtain ⟨i, hi, rfl⟩ := List.mem_map.1 hx
    rw [List.mem_range] at hi
    obtain ⟨i1, i2, i3⟩ := ih
    have hof : ofN (nSy s) (v ^^^ rowE s (nSy s) i) = ofN (nSy s) v ^^^ 2 ^ i := by
      have := rowE_of (n := nSy s) (ho.lt i hi)
      unfold ofN at this ⊢
      rw [Nat.shiftRight_xor_distrib, this]
    rw [hof, sumB_set, sumR_set, sumM_flip, sumQ_flip, ← sumB_set, ← sumR_set]
    refine ⟨fun j hj => ?_, ?_, fun k hk => ?_⟩
    · rw [Nat.testBit_xor, Nat.testBit_xor, i1 j hj, rowE_low ho hi hj, if_pos (by omega)]
    · rw [Nat.testBit_xor, i2, rowE_right (ho.lt i hi), decide_eq_true (by omega : i < 64), Bool.true_and]
    · rw [Nat.testBit_xor, i3 k hk, Nat.testBit_two_pow]
      have : i ≠ k := by omega
      simp [this]
/-- A refusal that is told refuses. -/
theorem ref_sum {s : Sy} {m : Nat} (ho : OkE s (nSy s) m) (h0 : refN s ≠ 0) : refSum s (setL (ofN (nSy s) (refN s))) = true := by
  obtain ⟨h1, h2, h3⟩ := (elim_s s).ref h0
  obtain ⟨q1, q2, _⟩ := sp_sum ho h1
  unfold refSum
  rw [Bool.and_eq_true]
  refine ⟨by rw [← q2]; exact h3, ?_⟩
  unfold noBit
  rw [List.all_eq_true]
  intro j hj
  have hj2 : j < nSy s := List.mem_range.1 hj
  rw [← q1 j hj2]
  have := h2 j hj2
  simp only at this
  rw [this]
  rfl
theorem sumB_snoc {s : Sy} {l : List Int} {i : Int} : sumB s (l ++ [i]) = sumB s l ^^^ rowB s i.toNat := by
  unfold sumB
  rw [List.foldl_append]
  rfl
theorem sumR_snoc {s : Sy} {l : List Int} {i : Int} : sumR s (l ++ [i]) = (sumR s l != (lO s.right).getD i.toNat false) := by
  unfold sumR
  rw [List.foldl_append]
  rfl
theorem sat_sum {s : Sy} {x : Nat} (hx : SatS s x) (l : List Int) (hl : ∀ i ∈ l, i.toNat < (lB s.rows).length) : oddN (sumB s l) x (nSy s) = sumR s l := by
  have key : ∀ k, k ≤ l.length → oddN (sumB s (l.take k)) x (nSy s) = sumR s (l.take k) := by
    intro k
    induction k with
    | zero =>
      intro _
      have : oddN 0 x (nSy s) = false := oddN_none fun j _ => by simp
      exact this
    | succ k ih =>
      intro hk
      have hkl : k < l.length := by omega
      rw [sumB_take hkl, sumR_take hkl, oddN_xor, ih (by omega), hx _ (hl _ (by simp [hkl]))]
  have := key l.length (Nat.le_refl _)
  rwa [List.take_length] at this
/-- What is refused has no solution. -/
theorem refSum_ref {s : Sy} {m : Nat} (ho : OkE s (nSy s) m) {l : List Int} (hl : ∀ i ∈ l, i.toNat < (lB s.rows).length) (hr : refSum s l = true) : refN s ≠ 0 := by
  intro h0
  have h1 := sat_sum (sol_sat ho h0) l hl
  unfold refSum at hr
  rw [Bool.and_eq_true] at hr
  obtain ⟨r1, r2⟩ := hr
  have h2 : oddN (sumB s l) (solN s) (nSy s) = false := oddN_none fun j hj => by
    have := List.all_eq_true.1 r2 j (List.mem_range.2 hj)
    simp only [Bool.not_eq_true'] at this
    rw [this, Bool.false_and]
  rw [h2, r1] at h1
  cases h1
/-- A null vector added to a solution gives a solution. -/
theorem null_sat {s : Sy} {m : Nat} (ho : OkE s (nSy s) m) (h0 : refN s = 0) {v : Nat} (hv : ∀ l ∈ linS s, oddN l v (nSy s) = false) {x : Nat} (hx : SatS s x) : SatS s (x ^^^ v) := by
  intro i hi
  rw [oddN_xor2, hx i hi]
  obtain ⟨u, hu, hb⟩ := (elim_s s).rep h0 (rowE s (nSy s) i) (List.mem_map.2 ⟨i, List.mem_range.2 hi, rfl⟩)
  have hl : ∀ l ∈ linS s, oddN l v (nSy s) = rgt false (nSy s) l := fun l hl => by
    rw [hv l hl]
    rfl
  have h1 := Sp.sat hl hu
  have h2 : oddN (rowB s i) v (nSy s) = oddN u v (nSy s) := oddN_congr fun j hj => by
    rw [← rowE_low ho hi hj, hb j (by omega)]
  rw [h2, h1]
  unfold rgt
  simp

theorem filter_two {p : Nat → Bool} : ∀ {l : List Nat}, (l.filter p).length + (l.filter fun c => !p c).length = l.length
  | [] => rfl
  | a :: l => by
    have := filter_two (p := p) (l := l)
    cases h : p a <;> simp [h] <;> omega
theorem rank_free {s : Sy} : (linS s).length + (freeN s).length = nSy s := by
  have hE : Ech (nSy s) (linS s) := (lin_sim s).es
  have hp : ((List.range (nSy s)).filter fun c => decide (c ∈ (linS s).map (lead (nSy s)))).Perm ((linS s).map (lead (nSy s))) := by
    rw [List.perm_ext_iff_of_nodup (List.nodup_range.filter _) hE.nd]
    intro c
    rw [List.mem_filter, List.mem_range, decide_eq_true_eq]
    refine ⟨fun h => h.2, fun h => ⟨?_, h⟩⟩
    obtain ⟨l, hl, rfl⟩ := List.mem_map.1 h
    exact hE.lt l hl
  have h1 := hp.length_eq
  rw [List.length_map] at h1
  have h2 : (freeN s).length = ((List.range (nSy s)).filter fun c => !decide (c ∈ (linS s).map (lead (nSy s)))).length := by
    unfold freeN freeTo
    rw [List.length_map]
  have h3 := filter_two (p := fun c => decide (c ∈ (linS s).map (lead (nSy s)))) (l := List.range (nSy s))
  rw [List.length_range] at h3
  rw [h2, ← h1]
  exact h3

theorem wordsN_succ {B m : Nat} : wordsN B (m + 1) = (wordN B 0 : Int) :: wordsN (B >>> 16) m := by
  unfold wordsN
  rw [List.range_succ_eq_map, List.map_cons, List.map_map]
  congr 1
  refine List.map_congr_left fun k _ => ?_
  simp only [Function.comp]
  unfold wordN
  rw [← Nat.shiftRight_add]
  congr 3
  omega
theorem numW_wordsN : ∀ {m B : Nat}, B < 2 ^ (16 * m) → numW (wordsN B m) = B
  | 0, B, h => by
    have : B = 0 := by simpa using h
    subst this
    rfl
  | m + 1, B, h => by
    have h16 : (2 : Nat) ^ 16 = 65536 := rfl
    have hlt : B >>> 16 < 2 ^ (16 * m) := by
      rw [Nat.shiftRight_eq_div_pow, Nat.div_lt_iff_lt_mul (Nat.two_pow_pos _), ← Nat.pow_add]
      rwa [show 16 * m + 16 = 16 * (m + 1) by omega]
    rw [wordsN_succ, numW, numW_wordsN hlt]
    have hw : (wordN B 0 : Int).toNat = B % 65536 := by
      rw [Int.toNat_natCast]
      rfl
    rw [hw, Nat.shiftRight_eq_div_pow, h16]
    omega
/-- A number whose bits are told. -/
def mkN (n : Nat) (g : Nat → Bool) : Nat := (List.range n).foldl (fun B i => setB B i (g i)) 0
theorem mkN_succ {n : Nat} {g : Nat → Bool} : mkN (n + 1) g = setB (mkN n g) n (g n) := by
  unfold mkN
  rw [List.range_succ, List.foldl_append]
  rfl
theorem mkN_bit {g : Nat → Bool} {j : Nat} : ∀ {n : Nat}, (mkN n g).testBit j = (decide (j < n) && g j)
  | 0 => by simp [mkN]
  | n + 1 => by
    rw [mkN_succ, setB_bit]
    by_cases h : j = n
    · subst h
      simp
    · rw [if_neg h, mkN_bit]
      congr 1
      rw [decide_eq_decide]
      omega
def edgeN (e : List Int) : Nat := e.foldl (fun B p => B ||| 2 ^ p.toNat) 0
theorem edgeN_from {j : Nat} : ∀ {e : List Int} {B : Nat}, (∀ p ∈ e, 0 ≤ p) → (e.foldl (fun B p => B ||| 2 ^ p.toNat) B).testBit j = (B.testBit j || decide ((j : Int) ∈ e))
  | [], B, _ => by simp
  | p :: e, B, h => by
    rw [List.foldl_cons, edgeN_from fun q hq => h q (List.mem_cons_of_mem _ hq), or_bit]
    have h0 := h p (by simp)
    have : decide (p.toNat = j) = decide ((j : Int) = p) := by
      rw [decide_eq_decide]
      omega
    rw [this, Bool.or_assoc]
    congr 1
    rw [← Bool.decide_or, decide_eq_decide, List.mem_cons]
theorem edgeN_bit {e : List Int} {j : Nat} (h : ∀ p ∈ e, 0 ≤ p) : (edgeN e).testBit j = decide ((j : Int) ∈ e) := by
  unfold edgeN
  rw [edgeN_from h]
  simp
theorem edgeN_take {e : List Int} {i : Nat} (hi : i < e.length) : edgeN (e.take (i + 1)) = edgeN (e.take i) ||| 2 ^ (e.getD i 0).toNat := by
  unfold edgeN
  rw [List.take_add_one, List.foldl_append]
  simp [hi]
theorem mkN_edge {e : List Int} {n : Nat} (h : ∀ p ∈ e, 0 ≤ p ∧ p < n) : mkN n (fun i => decide ((i : Int) ∈ e)) = edgeN e := by
  refine Nat.eq_of_testBit_eq fun j => ?_
  rw [mkN_bit, edgeN_bit fun p hp => (h p hp).1]
  by_cases hj : j < n
  · simp [hj]
  · have : (j : Int) ∉ e := fun hm => by have := (h _ hm).2; omega
    simp [hj, this]
theorem edgeN_lt {e : List Int} {n : Nat} (h : ∀ p ∈ e, 0 ≤ p ∧ p < n) : edgeN e < 2 ^ n := by
  rw [← mkN_edge h]
  refine Nat.lt_pow_two_of_testBit _ fun j hj => ?_
  rw [mkN_bit]
  simp
  omega
theorem lastOk_of {B n m : Nat} (hm : (((n : Int) + 15) / 16) = (m : Int)) (hB : B < 2 ^ n) : lastOk n (wordsN B m) = true := by
  unfold lastOk
  rw [Bool.or_eq_true, decide_eq_true_eq, decide_eq_true_eq]
  by_cases hz : (n : Int) % 16 = 0
  · exact .inl hz
  · right
    have hm1 : 1 ≤ m := by omega
    rw [wordsN_len, wordsN_get (by omega)]
    have hr : min ((n : Int) % 16).toNat IntKind.i64.bits = n % 16 := by
      simp [IntKind.bits]
      omega
    rw [hr]
    have hlt : wordN B (m - 1) < 2 ^ (n % 16) := by
      unfold wordN
      refine Nat.lt_of_le_of_lt (Nat.mod_le _ _) ?_
      rw [Nat.shiftRight_eq_div_pow, Nat.div_lt_iff_lt_mul (Nat.two_pow_pos _), ← Nat.pow_add]
      rwa [show n % 16 + 16 * (m - 1) = n by omega]
    have h2 : ((2 : Int) ^ (n % 16)) = ((2 ^ (n % 16) : Nat) : Int) := by simp
    rw [h2, ← Int.ofNat_fdiv, Nat.div_eq_of_lt hlt]
    rfl
theorem okBt_of {B n m : Nat} (hm : (((n : Int) + 15) / 16) = (m : Int)) (hB : B < 2 ^ n) (hn : n ≤ 4096) : okBt ⟨n, some (wordsN B m)⟩ = true := by
  have hl : lI (some (wordsN B m)) = wordsN B m := rfl
  have hw : okWords (wordsN B m) = true := by
    unfold okWords
    rw [List.all_eq_true]
    intro w hw
    have := wordsN_all w hw
    simp [this.1, this.2]
  simp only [okBt, hl, wordsN_len, hw, lastOk_of hm hB, Bool.and_eq_true, decide_eq_true_eq, and_true] <;> omega

theorem solN_lt {s : Sy} : solN s < 2 ^ nSy s := Nat.lt_pow_two_of_testBit _ fun c hc => by
  unfold solN
  rw [fillS_lt (Nat.le_refl _) (fun c _ => by simp) c hc]
theorem numW_of {s : Sy} {m B : Nat} (ho : OkE s (nSy s) m) (hB : B < 2 ^ nSy s) : numW (wordsN B (mSy s)) = B := by
  refine numW_wordsN (Nat.lt_of_lt_of_le hB (Nat.pow_le_pow_right (by decide) ?_))
  unfold mSy
  omega
theorem okBt_n {s : Sy} {m B : Nat} (ho : OkE s (nSy s) m) (hB : B < 2 ^ nSy s) : okBt ⟨nSy s, some (wordsN B (mSy s))⟩ = true := by
  have h2 := ho.n2
  exact okBt_of (by unfold mSy; omega) hB (by omega)
theorem isol_of {s : Sy} {m B : Nat} (ho : OkE s (nSy s) m) (hk : okSy s = true) (hB : B < 2 ^ nSy s) (hs : SatS s B) : isolV s ⟨nSy s, some (wordsN B (mSy s))⟩ = .tup [.bool true, .bool true] := by
  unfold isolV
  rw [hk, okBt_n ho hB, Bool.and_self, if_pos rfl, if_pos (show (nSy s : Int) = s.size from ho.sz.symm)]
  rw [show lI (some (wordsN B (mSy s))) = wordsN B (mSy s) from rfl, numW_of ho hB, satB_yes hs]
theorem isol_sol {s : Sy} {m : Nat} (ho : OkE s (nSy s) m) (hk : okSy s = true) (h0 : refN s = 0) : isolV s (solB s) = .tup [.bool true, .bool true] := by
  unfold solB
  rw [if_pos ⟨hk, h0⟩]
  exact isol_of ho hk solN_lt (sol_sat ho h0)
theorem risFrom_app {l l2 : List Int} {lo hi : Int} : ∀ {k}, k ≤ l.length → risFrom (l ++ l2) lo hi k = risFrom l lo hi k
  | 0, _ => rfl
  | k + 1, hk => by
    have h1 : (l ++ l2).getD k 0 = l.getD k 0 := by
      rw [List.getD_eq_getElem?_getD, List.getD_eq_getElem?_getD, List.getElem?_append_left (by omega)]
    have h2 : (l ++ l2).getD (k - 1) 0 = l.getD (k - 1) 0 := by
      rw [List.getD_eq_getElem?_getD, List.getD_eq_getElem?_getD, List.getElem?_append_left (by omega)]
    simp only [risFrom, risFrom_app (show k ≤ l.length by omega), h1, h2]
theorem ris_setTo {M R : Nat} (hM : ∀ i, R ≤ i → M.testBit i = false) : ∀ i : Nat, risFrom (setTo M i) 0 ((R : Int) - 1) (setTo M i).length = true ∧ ∀ x ∈ setTo M i, x < (i : Int)
  | 0 => ⟨rfl, fun x hx => by cases hx⟩
  | i + 1 => by
    obtain ⟨h1, h2⟩ := ris_setTo hM i
    rw [setTo_succ]
    by_cases hb : M.testBit i = true
    · rw [if_pos hb]
      have hiR : i < R := by
        rcases Nat.lt_or_ge i R with h | h
        · exact h
        · rw [hM i h] at hb
          cases hb
      refine ⟨?_, fun x hx => ?_⟩
      · rw [List.length_append, List.length_cons, List.length_nil]
        have hg : (setTo M i ++ [(i : Int)]).getD (setTo M i).length 0 = (i : Int) := by simp
        simp only [risFrom, risFrom_app (Nat.le_refl _), h1, hg, Bool.true_and, Bool.and_eq_true, Bool.or_eq_true, decide_eq_true_eq]
        refine ⟨by omega, ?_⟩
        rcases Nat.eq_zero_or_pos (setTo M i).length with h0 | h0
        · exact .inl h0
        · right
          have h3 : (setTo M i ++ [(i : Int)]).getD ((setTo M i).length - 1) 0 ∈ setTo M i := by
            rw [List.getD_eq_getElem?_getD, List.getElem?_append_left (by omega), List.getElem?_eq_getElem (by omega)]
            exact List.getElem_mem _
          exact h2 _ h3
      · rcases List.mem_append.1 hx with h | h
        · have := h2 x h
          omega
        · rw [List.mem_singleton.1 h]
          omega
    · rw [if_neg hb]
      exact ⟨h1, fun x hx => by have := h2 x hx; omega⟩
theorem refO_some {s : Sy} {m : Nat} (ho : OkE s (nSy s) m) (hk : okSy s = true) (h0 : refN s ≠ 0) : lI (refO s) = setL (ofN (nSy s) (refN s)) := by
  unfold refO
  rw [if_pos hk, lI_optL]
theorem ref_self {s : Sy} {m : Nat} (ho : OkE s (nSy s) m) (hk : okSy s = true) (h0 : refN s ≠ 0) : refV s (lI (refO s)) = .tup [.bool true, .bool true] ∧ decide (0 < (lI (refO s)).length) = true := by
  have h1 := ref_sum ho h0
  obtain ⟨q1, _, _⟩ := (elim_s s).ref h0
  obtain ⟨_, _, q3⟩ := sp_sum ho q1
  have h2 := (ris_setTo (M := ofN (nSy s) (refN s)) (R := (lB s.rows).length) (fun i hi => q3 i hi) 64).1
  rw [setTo_all] at h2
  rw [refO_some ho hk h0]
  refine ⟨?_, ?_⟩
  · unfold refV
    rw [if_pos hk, if_pos h2, h1]
  · rw [decide_eq_true_eq]
    rcases Nat.eq_zero_or_pos (setL (ofN (nSy s) (refN s))).length with h3 | h3
    · rw [List.eq_nil_of_length_eq_zero h3] at h1
      cases h1
    · exact h3
/-- The three kinds of systems. -/
theorem sys_cases (s : Sy) : (okSy s = false ∧ solq s = false ∧ decide (0 < (lI (refO s)).length) = false) ∨ (okSy s = true ∧ solq s = true ∧ decide (0 < (lI (refO s)).length) = false ∧ isolV s (solB s) = .tup [.bool true, .bool true]) ∨
    (okSy s = true ∧ solq s = false ∧ decide (0 < (lI (refO s)).length) = true ∧ refV s (lI (refO s)) = .tup [.bool true, .bool true]) := by
  cases hk : okSy s
  · refine .inl ⟨rfl, by simp [solq, hk], ?_⟩
    unfold refO
    rw [hk]
    rfl
  · obtain ⟨m, ho⟩ := okE_n hk
    by_cases h0 : refN s = 0
    · refine .inr (.inl ⟨rfl, by simp [solq, hk, h0], ?_, isol_sol ho hk h0⟩)
      rw [(refO_zero ho hk).1 h0]
      rfl
    · obtain ⟨h1, h2⟩ := ref_self ho hk h0
      exact .inr (.inr ⟨rfl, by simp [solq, h0], h2, h1⟩)
theorem isol_noref {s : Sy} {b : Bt} {q : Bool} (h : isolV s b = .tup [.bool true, .bool q]) : decide (0 < (lI (refO s)).length) = false := by
  unfold isolV at h
  split at h
  · rename_i hk
    rw [Bool.and_eq_true] at hk
    split at h
    · injection h with h
      injection h with h _
      injection h with h
      obtain ⟨m, ho⟩ := okE_n hk.1
      rw [(refO_zero ho hk.1).1 (sat_ref ho (satB_all h))]
      rfl
    · injection h with h
      injection h with h _
      injection h with h
      cases h
  · injection h with h
    injection h with h _
    injection h with h
    cases h
theorem refV_nosol {s : Sy} {l : List Int} {q : Bool} (h : refV s l = .tup [.bool true, .bool q]) : solq s = false := by
  unfold refV at h
  split at h
  · rename_i hk
    obtain ⟨m, ho⟩ := okE_n hk
    split at h
    · rename_i hr
      injection h with h
      injection h with h _
      injection h with h
      have := refSum_ref ho (l := l) (fun i hi => by
        obtain ⟨j, hj, rfl⟩ := List.getElem_of_mem hi
        have h2 := risFrom_get hr j hj
        rw [List.getD_eq_getElem?_getD, List.getElem?_eq_getElem hj, Option.getD_some] at h2
        omega) h
      simp [solq, this]
    · injection h with h
      injection h with h _
      injection h with h
      cases h
  · injection h with h
    injection h with h _
    injection h with h
    cases h

theorem two_hi {n c k : Nat} (hc : c < n) (hk : n ≤ k) : (2 ^ c).testBit k = false := by
  rw [Nat.testBit_two_pow]
  simp
  omega
theorem nullN_lt {s : Sy} {c : Nat} (hc : c < nSy s) : nullN s c < 2 ^ nSy s := Nat.lt_pow_two_of_testBit _ fun k hk => by
  unfold nullN
  rw [fillS_lt (Nat.le_refl _) (fun k hk => two_hi hc hk) k hk]
theorem nullN_free {s : Sy} {c i : Nat} (hi : i ∉ (linS s).map (lead (nSy s))) : (nullN s c).testBit i = decide (c = i) := by
  unfold nullN
  rw [fillS_free hi, Nat.testBit_two_pow]
theorem nullN_odd {s : Sy} {c : Nat} (hf : c ∉ (linS s).map (lead (nSy s))) : ∀ l ∈ linS s, oddN l (nullN s c) (nSy s) = false := fun l hl =>
  fillS_sat (q := false) (lin_sim s).es (fun l hl => by
    rw [Nat.testBit_two_pow]
    have : c ≠ lead (nSy s) l := fun he => hf (by rw [he]; exact List.mem_map_of_mem hl)
    simp [this]) (Nat.le_refl _) l hl (by omega)
theorem freeN_nodup {s : Sy} : (freeN s).Nodup := by
  unfold freeN freeTo
  show List.Pairwise _ (List.map _ _)
  rw [List.pairwise_map]
  exact List.Pairwise.imp (fun h he => h (by omega)) (List.nodup_range.filter _)
theorem freeN_inj {s : Sy} {j k : Nat} (hj : j < (freeN s).length) (hk : k < (freeN s).length) : decide ((freeN s).getD k 0 = (freeN s).getD j 0) = decide (j = k) := by
  rw [decide_eq_decide]
  rw [List.getD_eq_getElem?_getD, List.getD_eq_getElem?_getD, List.getElem?_eq_getElem hj, List.getElem?_eq_getElem hk, Option.getD_some, Option.getD_some]
  refine ⟨fun h => ?_, fun h => by subst h; rfl⟩
  have hp := List.pairwise_iff_getElem.1 (freeN_nodup (s := s))
  rcases Nat.lt_trichotomy j k with h1 | h1 | h1
  · exact absurd h.symm (hp j k hj hk h1)
  · exact h1
  · exact absurd h (hp k j hk hj h1)
theorem nullB_get {s : Sy} {k : Nat} (hk : k < (freeN s).length) : (nullB s).getD k default = ⟨nSy s, some (wordsN (nullN s ((freeN s).getD k 0).toNat) (mSy s))⟩ := by
  unfold nullB
  simp [hk]

theorem fit_bytes3 {zs : List AV} (h : Fit (.sl (.int .u8) 1) zs) : ∃ a : Option (List UInt8), zs = [eU a] := by
  have key : ∀ xs, Fit (.int .u8) xs → ∃ c : UInt8, xs = [AV.int .u8 (c.toNat : Int)] := fun xs hx => by
    cases hx with
    | @int _ n h1 h2 =>
      have h1' : 0 ≤ n := by simpa [IntKind.min, IntKind.signed, IntKind.bits] using h1
      have h2' : n ≤ 255 := by simpa [IntKind.max, IntKind.signed, IntKind.bits] using h2
      refine ⟨UInt8.ofNat n.toNat, ?_⟩
      have : ((UInt8.ofNat n.toNat).toNat : Int) = n := by
        simp
        omega
      rw [this]
  rcases fit_rows (f := fun c : UInt8 => [AV.int .u8 (c.toNat : Int)]) key h with rfl | ⟨l, rfl⟩
  · exact ⟨none, rfl⟩
  · exact ⟨some l, by rw [flatMap_one]; rfl⟩
def sh_FnRanksAndNullVectors : List Sh := [.sl (.int .u8) 1, .sl (.int .u8) 1]
theorem law_FnRanksAndNullVectors (ys : List AV) (hy : ArgsFit sh_FnRanksAndNullVectors ys) : Call Try.prog 10 ys [] Nowhere (fun x _ => x = .bool true) := by
  obtain ⟨x1, y1, rfl, h1, hy⟩ := argsFit_cons hy
  obtain ⟨x2, y2, rfl, h2, hy⟩ := argsFit_cons hy
  obtain rfl := argsFit_nil hy
  obtain ⟨code, hce⟩ := fit_bytes3 h1
  obtain ⟨more, hme⟩ := fit_bytes3 h2
  subst hce hme
  refine (?_ : ∀ h, Call Try.prog 10 [eU code, eU more] h Nowhere (fun x _ => x = .bool true)) []
  intro h
  refine enter (by kernel_rfl) e10 (by kernel_rfl) rfl fun hok => ?_
  simp only [r10, initEnv_2]
  have hl1 := ok_eU (okV_0 hok)
  have hl2 := ok_eU (okV_1 hok)
  (try (simp (disch := first | omega | (simp <;> omega) | fail) only [push_cast, ↓reduceIte, Nat.reduceEqDiff, Nat.reduceAdd, Nat.reduceMul, Nat.reduceSub, Nat.reduceLT, Int.reduceToNat]))
  refine (c_laws_big code more hl1).call ?_
  cases hb : (decide (1048576 < ((lU code).length : Int)) || decide (1048576 - ((lU code).length : Int) < ((lU more).length : Int)))
  case true =>
    (try (simp (disch := first | omega | (simp <;> omega) | fail) only [push_cast, ↓reduceIte, Nat.reduceEqDiff, Nat.reduceAdd, Nat.reduceMul, Nat.reduceSub, Nat.reduceLT, Int.reduceToNat]))
  (try (simp (disch := first | omega | (simp <;> omega) | fail) only [push_cast, ↓reduceIte, Nat.reduceEqDiff, Nat.reduceAdd, Nat.reduceMul, Nat.reduceSub, Nat.reduceLT, Int.reduceToNat]))
  refine (c_spec_DrawSolveSystem code).use ?_
  rintro x ⟨s, rfl⟩
  cases hk : okSy s
  · have r1 : rankV s = .tup [.int .i64 0, .bool false] := by unfold rankV; rw [hk]; rfl
    have r2 : ∀ q, freeOV s q = .tup [.nils, .bool false] := fun q => by unfold freeOV; rw [hk]; rfl
    have r3 : ∀ q, nullOV s q = .tup [.nils, .bool false] := fun q => by unfold nullOV; rw [hk]; rfl
    (try (simp (disch := first | omega | (simp <;> omega) | fail) only [push_cast, ↓reduceIte, Nat.reduceEqDiff, Nat.reduceAdd, Nat.reduceMul, Nat.reduceSub, Nat.reduceLT, Int.reduceToNat]))
    refine (c_impl_RankOf s).call ?_
    rw [r1]
    (try (simp (disch := first | omega | (simp <;> omega) | fail) only [push_cast, ↓reduceIte, Nat.reduceEqDiff, Nat.reduceAdd, Nat.reduceMul, Nat.reduceSub, Nat.reduceLT, Int.reduceToNat]))
    refine (c_spec_RankOf s).call ?_
    rw [r1]
    (try (simp (disch := first | omega | (simp <;> omega) | fail) only [push_cast, ↓reduceIte, Nat.reduceEqDiff, Nat.reduceAdd, Nat.reduceMul, Nat.reduceSub, Nat.reduceLT, Int.reduceToNat]))
    refine (c_impl_FreeColumns_o s).fn.call ?_
    rw [r2]
    (try (simp (disch := first | omega | (simp <;> omega) | fail) only [push_cast, ↓reduceIte, Nat.reduceEqDiff, Nat.reduceAdd, Nat.reduceMul, Nat.reduceSub, Nat.reduceLT, Int.reduceToNat]))
    refine (c_spec_FreeColumns s).call ?_
    rw [r2]
    (try (simp (disch := first | omega | (simp <;> omega) | fail) only [push_cast, ↓reduceIte, Nat.reduceEqDiff, Nat.reduceAdd, Nat.reduceMul, Nat.reduceSub, Nat.reduceLT, Int.reduceToNat]))
    refine (c_impl_NullVectors_o s).fn.call ?_
    rw [r3]
    (try (simp (disch := first | omega | (simp <;> omega) | fail) only [push_cast, ↓reduceIte, Nat.reduceEqDiff, Nat.reduceAdd, Nat.reduceMul, Nat.reduceSub, Nat.reduceLT, Int.reduceToNat]))
    refine (c_spec_NullVectors s).call ?_
    rw [r3]
    (try (simp (disch := first | omega | (simp <;> omega) | fail) only [push_cast, ↓reduceIte, Nat.reduceEqDiff, Nat.reduceAdd, Nat.reduceMul, Nat.reduceSub, Nat.reduceLT, Int.reduceToNat]))
    refine (c_laws_pSameInts none none).call ?_
    (try (simp (disch := first | omega | (simp <;> omega) | fail) only [push_cast, ↓reduceIte, Nat.reduceEqDiff, Nat.reduceAdd, Nat.reduceMul, Nat.reduceSub, Nat.reduceLT, Int.reduceToNat]))
  obtain ⟨m, ho⟩ := okE_n hk
  have hlf : lI (optL (freeN s)) = freeN s := lI_optL
  have hln : lB (optB (nullB s)) = nullB s := lB_optB
  have r1 : rankV s = .tup [.int .i64 (linS s).length, .bool true] := by unfold rankV; rw [hk]; rfl
  have r2 : freeOV s true = .tup [eI (some (freeN s)), .bool true] := by unfold freeOV; rw [hk]; rfl
  have r2' : freeOV s false = .tup [eI (optL (freeN s)), .bool true] := by unfold freeOV; rw [hk]; rfl
  have r3 : nullOV s true = .tup [eBS (some (nullB s)), .bool true] := by unfold nullOV; rw [hk]; rfl
  have r3' : nullOV s false = .tup [eBS (optB (nullB s)), .bool true] := by unfold nullOV; rw [hk]; rfl
  have hlB : lB (some (nullB s)) = nullB s := rfl
  have hlI : lI (some (freeN s)) = freeN s := rfl
  have hsi : decide (lI (some (freeN s)) = lI (optL (freeN s))) = true := by rw [hlf]; simp [hlI]
  have hnl := nullB_len (s := s)
  have hrf := rank_free (s := s)
  have hsz := ho.sz
  have hn2 := ho.n2
  (try (simp (disch := first | omega | (simp <;> omega) | fail) only [push_cast, ↓reduceIte, Nat.reduceEqDiff, Nat.reduceAdd, Nat.reduceMul, Nat.reduceSub, Nat.reduceLT, Int.reduceToNat]))
  refine (c_impl_RankOf s).call ?_
  rw [r1]
  (try (simp (disch := first | omega | (simp <;> omega) | fail) only [push_cast, ↓reduceIte, Nat.reduceEqDiff, Nat.reduceAdd, Nat.reduceMul, Nat.reduceSub, Nat.reduceLT, Int.reduceToNat]))
  refine (c_spec_RankOf s).call ?_
  rw [r1]
  (try (simp (disch := first | omega | (simp <;> omega) | fail) only [push_cast, ↓reduceIte, Nat.reduceEqDiff, Nat.reduceAdd, Nat.reduceMul, Nat.reduceSub, Nat.reduceLT, Int.reduceToNat]))
  refine (c_impl_FreeColumns_o s).fn.call ?_
  rw [r2]
  (try (simp (disch := first | omega | (simp <;> omega) | fail) only [push_cast, ↓reduceIte, Nat.reduceEqDiff, Nat.reduceAdd, Nat.reduceMul, Nat.reduceSub, Nat.reduceLT, Int.reduceToNat]))
  refine (c_spec_FreeColumns s).call ?_
  rw [r2']
  (try (simp (disch := first | omega | (simp <;> omega) | fail) only [push_cast, ↓reduceIte, Nat.reduceEqDiff, Nat.reduceAdd, Nat.reduceMul, Nat.reduceSub, Nat.reduceLT, Int.reduceToNat]))
  refine (c_impl_NullVectors_o s).fn.call ?_
  rw [r3]
  (try (simp (disch := first | omega | (simp <;> omega) | fail) only [push_cast, ↓reduceIte, Nat.reduceEqDiff, Nat.reduceAdd, Nat.reduceMul, Nat.reduceSub, Nat.reduceLT, Int.reduceToNat]))
  refine (c_spec_NullVectors s).call ?_
  rw [r3']
  (try (simp (disch := first | omega | (simp <;> omega) | fail) only [push_cast, ↓reduceIte, Nat.reduceEqDiff, Nat.reduceAdd, Nat.reduceMul, Nat.reduceSub, Nat.reduceLT, Int.reduceToNat]))
  refine (c_laws_pSameInts (some (freeN s)) (optL (freeN s))).call ?_
  rw [hsi]
  (try (simp (disch := first | omega | (simp <;> omega) | fail) only [push_cast, ↓reduceIte, Nat.reduceEqDiff, Nat.reduceAdd, Nat.reduceMul, Nat.reduceSub, Nat.reduceLT, Int.reduceToNat, hln, hlB, hlI, hnl]))
  have hsq : solq s = decide (refN s = 0) := by simp [solq, hk]
  refine (c_impl_SolveSystem_o s).fn.call ?_
  unfold solV
  (try (simp (disch := first | omega | (simp <;> omega) | fail) only [push_cast, ↓reduceIte, Nat.reduceEqDiff, Nat.reduceAdd, Nat.reduceMul, Nat.reduceSub, Nat.reduceLT, Int.reduceToNat]))
  have hml : mSy s ≤ 1000 := by
    have := ho.n2
    unfold mSy
    omega
  have hmm : (((nSy s : Nat) : Int) + 15) / 16 = ((mSy s : Nat) : Int) := by unfold mSy; omega
  refine T_for (freeN s).length (fun k e g => Pins e [(5, .adr h.length 0), (10, eI (some (freeN s))), (16, eBS (optB (nullB s))), (18, .adr (h.length + 1) 0), (19, .bool (solq s)), (127, eBS (some (nullB s))), (128, .int .i64 (freeN s).length), (129, .int .i64 k)] ∧ ∃ l, g = h ++ some (.cells [.int .i64 s.size, eBS s.rows, eO s.right]) :: some (.cells [.int .i64 (solB s).size, eI (solB s).words]) :: l) ?_ ?_
  · refine ⟨?_, [], rfl⟩
    (try (simp (disch := first | omega | (simp <;> omega) | fail) only [push_cast, ↓reduceIte, Nat.reduceEqDiff, Nat.reduceAdd, Nat.reduceMul, Nat.reduceSub, Nat.reduceLT, Int.reduceToNat, hlB, hnl]))
    all_goals (try simp)
  rintro k e g hkk ⟨hp, l, rfl⟩
  refine T_pins hp fun e => ?_
  (try (simp (disch := first | omega | (simp <;> omega) | fail) only [push_cast, ↓reduceIte, Nat.reduceEqDiff, Nat.reduceAdd, Nat.reduceMul, Nat.reduceSub, Nat.reduceLT, Int.reduceToNat]))
  first | refine goC_split (fun hc => ?_) (fun hc => ?_) | refine cnd_split (fun hc => ?_) (fun hc => ?_)
  · (try (simp only [decide_eq_true_eq, decide_eq_false_iff_not, Bool.not_eq_true', Bool.not_eq_false', Bool.and_eq_true, Bool.or_eq_true, Int.not_lt, Int.not_le] at hc)); (try (simp (disch := first | omega | (simp <;> omega) | fail) only [push_cast, ↓reduceIte, Nat.reduceEqDiff, Nat.reduceAdd, Nat.reduceMul, Nat.reduceSub, Nat.reduceLT, Int.reduceToNat]))
    have hk2 : k < (freeN s).length := by omega
    obtain ⟨ck, hck, hck2, hck3⟩ := free_get hk2
    have hv := nullB_get hk2
    rw [hck, Int.toNat_natCast] at hv
    have hv1 : ((nullB s).getD k default).size = (nSy s : Int) := by rw [hv]
    have hv2 : ((nullB s).getD k default).words = some (wordsN (nullN s ck) (mSy s)) := by rw [hv]
    have hg5 : H.cells (h ++ some (.cells [.int .i64 s.size, eBS s.rows, eO s.right]) :: some (.cells [.int .i64 (solB s).size, eI (solB s).words]) :: l) h.length = some [.int .i64 s.size, eBS s.rows, eO s.right] := by rw [cells_h0]; rfl
    have hia : iaddrA 2 (eBS (some (nullB s))) (.int .i64 k) = some (.rad ((nullB s).flatMap cB) (k * 2)) := by
      rw [iaddr_eBS (by omega) (by rw [hlB]; omega), hlB]
      simp
    have hia2 : iaddrA 2 (eBS (optB (nullB s))) (.int .i64 k) = some (.rad ((nullB s).flatMap cB) (k * 2)) := by
      rw [iaddr_eBS (by omega) (by rw [hln]; omega), hln]
      simp
    have hld : ld true 2 ((nullB s).flatMap cB) (k * 2) = some (.agg [.int .i64 (nSy s : Int), eI (some (wordsN (nullN s ck) (mSy s)))]) := by
      rw [ld_B (by omega), hv]
      rfl
    obtain ⟨V, hV⟩ : ∃ V : Bt, V = ⟨(nSy s : Int), some (wordsN (nullN s ck) (mSy s))⟩ := ⟨_, rfl⟩
    have hNlt := nullN_lt (s := s) hck2
    have hVok : okBt ⟨(nSy s : Int), some (wordsN (nullN s ck) (mSy s))⟩ = true := okBt_n ho hNlt
    have hsv : (decide ((nSy s : Int) = (nSy s : Int)) && decide (lI (some (wordsN (nullN s ck) (mSy s))) = lI (some (wordsN (nullN s ck) (mSy s))))) = true := by simp
    have h21 : ∀ l' : H, H.cells ((h ++ some (.cells [.int .i64 s.size, eBS s.rows, eO s.right]) :: some (.cells [.int .i64 (solB s).size, eI (solB s).words]) :: l) ++ some (.cells [.int .i64 (nSy s : Int), eI (some (wordsN (nullN s ck) (mSy s)))]) :: l') (h ++ some (.cells [.int .i64 s.size, eBS s.rows, eO s.right]) :: some (.cells [.int .i64 (solB s).size, eI (solB s).words]) :: l).length = some [.int .i64 (nSy s : Int), eI (some (wordsN (nullN s ck) (mSy s)))] := fun l' => by rw [cells_h0]; rfl
    (try (simp (disch := first | omega | (simp <;> omega) | fail) only [push_cast, ↓reduceIte, Nat.reduceEqDiff, Nat.reduceAdd, Nat.reduceMul, Nat.reduceSub, Nat.reduceLT, Int.reduceToNat, hia, hia2, hld]))
    refine (c_laws_pSameBits ⟨(nSy s : Int), some (wordsN (nullN s ck) (mSy s))⟩ ⟨(nSy s : Int), some (wordsN (nullN s ck) (mSy s))⟩).call ?_
    rw [hsv]
    (try (simp (disch := first | omega | (simp <;> omega) | fail) only [push_cast, ↓reduceIte, Nat.reduceEqDiff, Nat.reduceAdd, Nat.reduceMul, Nat.reduceSub, Nat.reduceLT, Int.reduceToNat]))
    have hl2 : h.length + (l.length + 1 + 1) = h.length + (l.length + 2) := by omega
    obtain ⟨g1, hg1⟩ : ∃ g1 : H, g1 = h ++ some (.cells [.int .i64 s.size, eBS s.rows, eO s.right]) :: some (.cells [.int .i64 (solB s).size, eI (solB s).words]) :: (l ++ [some (.cells [.int .i64 (nSy s : Int), eI (some (wordsN (nullN s ck) (mSy s)))])]) := ⟨_, rfl⟩
    have c5 : g1.cells h.length = some [.int .i64 s.size, eBS s.rows, eO s.right] := by rw [hg1, cells_h0]; rfl
    have c18 : g1.cells (h.length + 1) = some [.int .i64 (solB s).size, eI (solB s).words] := by rw [hg1, cells_hk]; rfl
    have c21 : g1.cells (h.length + (l.length + 1 + 1)) = some [.int .i64 (nSy s : Int), eI (some (wordsN (nullN s ck) (mSy s)))] := by
      rw [hg1, cells_hk]
      simp [cellsO]
    rw [← hg1]
    generalize hbV : h.length + (l.length + 1 + 1) = bV at *
    rw [hlI]
    refine T_for (freeN s).length (fun j e g => Pins e [(5, .adr h.length 0), (10, eI (some (freeN s))), (16, eBS (optB (nullB s))), (18, .adr (h.length + 1) 0), (19, .bool (solq s)), (127, eBS (some (nullB s))), (128, .int .i64 (freeN s).length), (129, .int .i64 k), (20, .int .i64 k), (21, .adr bV 0), (141, eI (some (freeN s))), (142, .int .i64 (freeN s).length), (143, .int .i64 j)] ∧ g = g1) ?_ ?_
    · (try (simp (disch := first | omega | (simp <;> omega) | fail) only [push_cast, ↓reduceIte, Nat.reduceEqDiff, Nat.reduceAdd, Nat.reduceMul, Nat.reduceSub, Nat.reduceLT, Int.reduceToNat]))
      all_goals (try simp)
    rintro j e g hjj ⟨hp, rfl⟩
    refine T_pins hp fun e => ?_
    (try (simp (disch := first | omega | (simp <;> omega) | fail) only [push_cast, ↓reduceIte, Nat.reduceEqDiff, Nat.reduceAdd, Nat.reduceMul, Nat.reduceSub, Nat.reduceLT, Int.reduceToNat]))
    first | refine goC_split (fun hd => ?_) (fun hd => ?_) | refine cnd_split (fun hd => ?_) (fun hd => ?_)
    · (try (simp only [decide_eq_true_eq, decide_eq_false_iff_not, Bool.not_eq_true', Bool.not_eq_false', Bool.and_eq_true, Bool.or_eq_true, Int.not_lt, Int.not_le] at hd)); (try (simp (disch := first | omega | (simp <;> omega) | fail) only [push_cast, ↓reduceIte, Nat.reduceEqDiff, Nat.reduceAdd, Nat.reduceMul, Nat.reduceSub, Nat.reduceLT, Int.reduceToNat]))
      have hj2 : j < (freeN s).length := by omega
      obtain ⟨cj, hcj, hcj2, hcj3⟩ := free_get hj2
      have hgj : ((freeN s).map (AV.int .i64))[j]? = some (.int .i64 (cj : Int)) := by rw [get_I hj2, hcj]
      have hij : iaddrA 1 (eI (some (freeN s))) (.int .i64 j) = some (.rad ((freeN s).map (AV.int .i64)) j) := (iaddrA_ro (by omega) (by omega)).trans (by simp)
      (try (simp (disch := first | omega | (simp <;> omega) | fail) only [push_cast, ↓reduceIte, Nat.reduceEqDiff, Nat.reduceAdd, Nat.reduceMul, Nat.reduceSub, Nat.reduceLT, Int.reduceToNat, hij, hgj, c21]))
      refine (c_impl_BitAt (nSy s) (mSy s) (nullN s ck) cj hVok hmm hcj2 (by omega)).call ?_
      have hdec : decide (ck = cj) = decide (j = k) := by
        have := freeN_inj hj2 hk2
        rw [hck, hcj] at this
        rw [← this, decide_eq_decide]
        omega
      rw [nullN_free hcj3, hdec]
      by_cases hjk : j = k
      · subst hjk
        (try (simp (disch := first | omega | (simp <;> omega) | fail) only [push_cast, ↓reduceIte, Nat.reduceEqDiff, Nat.reduceAdd, Nat.reduceMul, Nat.reduceSub, Nat.reduceLT, Int.reduceToNat]))
      · have hjk2 : ¬ ((j : Int) = (k : Int)) := by omega
        (try (simp (disch := first | omega | (simp <;> omega) | fail) only [push_cast, ↓reduceIte, Nat.reduceEqDiff, Nat.reduceAdd, Nat.reduceMul, Nat.reduceSub, Nat.reduceLT, Int.reduceToNat, hjk, hjk2]))
    · (try (simp only [decide_eq_true_eq, decide_eq_false_iff_not, Bool.not_eq_true', Bool.not_eq_false', Bool.and_eq_true, Bool.or_eq_true, Int.not_lt, Int.not_le] at hd)); (try (simp (disch := first | omega | (simp <;> omega) | fail) only [push_cast, ↓reduceIte, Nat.reduceEqDiff, Nat.reduceAdd, Nat.reduceMul, Nat.reduceSub, Nat.reduceLT, Int.reduceToNat]))
      cases hq : solq s
      · (try (simp (disch := first | omega | (simp <;> omega) | fail) only [push_cast, ↓reduceIte, Nat.reduceEqDiff, Nat.reduceAdd, Nat.reduceMul, Nat.reduceSub, Nat.reduceLT, Int.reduceToNat, hq]))
        all_goals (try exact ⟨_, hg1⟩)
      · have h0 : refN s = 0 := by
          rw [hsq] at hq
          simpa using hq
        have hsB : solB s = ⟨nSy s, some (wordsN (solN s) (mSy s))⟩ := by
          unfold solB
          rw [if_pos ⟨hk, h0⟩]
        have hs1 : (solB s).size = (nSy s : Int) := by rw [hsB]
        have hs2 : (solB s).words = some (wordsN (solN s) (mSy s)) := by rw [hsB]
        rw [hs1, hs2] at c18
        (try (simp (disch := first | omega | (simp <;> omega) | fail) only [push_cast, ↓reduceIte, Nat.reduceEqDiff, Nat.reduceAdd, Nat.reduceMul, Nat.reduceSub, Nat.reduceLT, Int.reduceToNat, hq, c18, c21]))
        refine (c_impl_XorBits (nSy s) (mSy s) (solN s) (nullN s ck) (okBt_n ho solN_lt) hVok hml).call ?_
        have c52 : ∀ l' : H, H.cells (g ++ l') h.length = some [.int .i64 s.size, eBS s.rows, eO s.right] := fun l' => cells_app c5
        have hglen : ∀ l' : H, ∃ l2, g ++ l' = h ++ some (.cells [.int .i64 s.size, eBS s.rows, eO s.right]) :: some (.cells [.int .i64 (solB s).size, eI (solB s).words]) :: l2 := fun l' => ⟨(l ++ [some (.cells [.int .i64 (nSy s : Int), eI (some (wordsN (nullN s ck) (mSy s)))])]) ++ l', by rw [hg1]; simp⟩
        have hgl : h.length ≤ g.length := by have := cells_lt c5; omega
        (try (simp (disch := first | omega | (simp <;> omega) | fail) only [push_cast, ↓reduceIte, Nat.reduceEqDiff, Nat.reduceAdd, Nat.reduceMul, Nat.reduceSub, Nat.reduceLT, Int.reduceToNat, c52]))
        refine (c_impl_IsSolution s ⟨nSy s, some (wordsN (solN s ^^^ nullN s ck) (mSy s))⟩).call ?_
        rw [isol_of ho hk (Nat.xor_lt_two_pow solN_lt hNlt) (null_sat ho h0 (nullN_odd hck3) (sol_sat ho h0))]
        (try (simp (disch := first | omega | (simp <;> omega) | fail) only [push_cast, ↓reduceIte, Nat.reduceEqDiff, Nat.reduceAdd, Nat.reduceMul, Nat.reduceSub, Nat.reduceLT, Int.reduceToNat]))
        all_goals (try exact hglen _)
  · (try (simp only [decide_eq_true_eq, decide_eq_false_iff_not, Bool.not_eq_true', Bool.not_eq_false', Bool.and_eq_true, Bool.or_eq_true, Int.not_lt, Int.not_le] at hc)); (try (simp (disch := first | omega | (simp <;> omega) | fail) only [push_cast, ↓reduceIte, Nat.reduceEqDiff, Nat.reduceAdd, Nat.reduceMul, Nat.reduceSub, Nat.reduceLT, Int.reduceToNat]))
    (try (simp (disch := first | omega | (simp <;> omega) | fail) only [push_cast, ↓reduceIte, Nat.reduceEqDiff, Nat.reduceAdd, Nat.reduceMul, Nat.reduceSub, Nat.reduceLT, Int.reduceToNat]))

end Go.Proofs.Ytgkdnpigbpkehaa.M
