/-
  What the functions return.
-/
import Derived.Test.YtgkdnpigbpkehaaFn
import Derived.Test.YtgkdnpigbpkehaaCc
namespace Go.Proofs.Ytgkdnpigbpkehaa.M
open Go Go.RowKit
set_option linter.unusedVariables false
set_option linter.unusedSimpArgs false
set_option maxRecDepth 4000

def nullN (s : Sy) (c : Nat) : Nat := fillS (nSy s) false (linS s) (2 ^ c) (nSy s)
theorem free_get {s : Sy} {i : Nat} (hi : i < (freeN s).length) : ∃ c : Nat, (freeN s).getD i 0 = (c : Int) ∧ c < nSy s ∧ c ∉ (linS s).map (lead (nSy s)) := by
  have hm : (freeN s).getD i 0 ∈ freeN s := getD_mem hi
  obtain ⟨c, hc, he⟩ := List.mem_map.1 (show (freeN s).getD i 0 ∈ ((List.range (nSy s)).filter fun c => !(decide (c ∈ (linS s).map (lead (nSy s))))).map fun j : Nat => (j : Int) from hm)
  rw [List.mem_filter, List.mem_range] at hc
  exact ⟨c, he.symm, hc.1, by simpa using hc.2⟩
theorem null_eq {s : Sy} {c : Nat} {M : List Nat} (hp : M.Perm (linI s)) (hc : c < nSy s) (hf : c ∉ (linS s).map (lead (nSy s))) : setP (nSy s) (fun e => e.testBit c) M (2 ^ c) = nullN s c := by
  have hs := lin_sim s
  have hfi : c ∉ (linI s).map (lead (nSy s)) := fun hh => hf ((hs.leads c).2 hh)
  have h1 := piv_eq hs (x := 2 ^ c) (fun l hl => by
    rw [Nat.testBit_two_pow]
    have : c ≠ lead (nSy s) l := fun he => hf (by rw [he]; exact List.mem_map_of_mem hl)
    simp [this]) (pivV_null hs.ei hs.rr hp hc hfi)
  refine Nat.eq_of_testBit_eq fun k => ?_
  by_cases hk : k < nSy s
  · exact h1 k hk
  · have hh : ∀ k, nSy s ≤ k → (2 ^ c).testBit k = false := fun k hk => by
      rw [Nat.testBit_two_pow]
      simp
      omega
    rw [setP_hi (fun e he => hs.ei.lt e (hp.mem_iff.1 he)) (by omega)]
    unfold nullN
    rw [fillS_lt (Nat.le_refl _) hh k (by omega), hh k (by omega)]
def nullB (s : Sy) : List Bt := (freeN s).map fun c => ⟨nSy s, some (wordsN (nullN s c.toNat) (mSy s))⟩
theorem nullB_take {s : Sy} {i : Nat} (hi : i < (freeN s).length) : (nullB s).take (i + 1) = (nullB s).take i ++ [⟨nSy s, some (wordsN (nullN s ((freeN s).getD i 0).toNat) (mSy s))⟩] := by
  have h1 : (freeN s)[i]?.toList = [(freeN s).getD i 0] := by simp [hi]
  unfold nullB
  rw [← List.map_take, List.take_add_one, h1, List.map_append, List.map_take]
  rfl
theorem nullB_len {s : Sy} : (nullB s).length = (freeN s).length := by simp [nullB]
def optB (l : List Bt) : Option (List Bt) := if l = [] then none else some l
theorem lB_optB {l : List Bt} : lB (optB l) = l := by
  unfold optB
  split
  · rename_i h
    rw [h]
    rfl
  · rfl
def nullOV (s : Sy) (q : Bool) : AV := if okSy s then .tup [eBS (if q then some (nullB s) else optB (nullB s)), .bool true] else .tup [.nils, .bool false]
theorem free_nullOV {s : Sy} {q : Bool} : Free (nullOV s q) := by
  unfold nullOV
  split
  · exact free_tup (free_cons_ free_eBS (free_cons_ free_bool free_nil_))
  · exact free_tup (free_cons_ free_nils (free_cons_ free_bool free_nil_))
theorem off_nullB {s : Sy} {m : Nat} (ho : OkE s (nSy s) m) : offB (nullB s) ≤ 1000 := by
  have h1 := freeN_len ho
  have h2 : mSy s ≤ 5 := by
    have := ho.n2
    unfold mSy
    omega
  have key : ∀ l : List Int, offB (l.map fun c => (⟨nSy s, some (wordsN (nullN s c.toNat) (mSy s))⟩ : Bt)) ≤ l.length * 6 := fun l => by
    induction l with
    | nil => simp [offB]
    | cons a l ih =>
      have hw : (lI (some (wordsN (nullN s a.toNat) (mSy s)))).length = mSy s := wordsN_len
      unfold offB at ih ⊢
      simp only [List.map_cons, List.sum_cons, List.length_cons]
      omega
  have := key (freeN s)
  unfold nullB
  omega
theorem two_pow_or {c : Nat} : 0 ||| 2 ^ c = 2 ^ c := Nat.zero_or _
theorem setB_zero {c : Nat} : setB 0 c true = 2 ^ c := by
  unfold setB
  simp

set_option maxHeartbeats 2000000 in
theorem c_spec_NullVectors (s : Sy) : Fn Try.prog 38 [eSy s] (· = nullOV s false) := by
  refine Fn.froze_ fun h => ?_
  refine enter (by kernel_rfl) e38 (by kernel_rfl) rfl fun hok => ?_
  simp only [r38, initEnv_1]
  (try (simp (disch := first | omega | (simp <;> omega) | fail) only [push_cast, ↓reduceIte, Nat.reduceEqDiff, Nat.reduceAdd, Nat.reduceMul, Nat.reduceSub, Nat.reduceLT, Int.reduceToNat]))
  refine (c_spec_reGood s).call ?_
  unfold nullOV
  cases hk : okSy s
  · (try (simp (disch := first | omega | (simp <;> omega) | fail) only [push_cast, ↓reduceIte, Nat.reduceEqDiff, Nat.reduceAdd, Nat.reduceMul, Nat.reduceSub, Nat.reduceLT, Int.reduceToNat]))
    exact ⟨_, .free (free_tup (free_cons_ free_nils (free_cons_ free_bool free_nil_))), rfl⟩
  obtain ⟨m, ho⟩ := okE_n hk
  have hmm := ho.mm
  have hsz := ho.sz
  have hn1 := ho.n1
  have hn2 := ho.n2
  have hm := ho.hm
  have hnr := ho.nr
  have hlen := stS_len (s := s) (n := nSy s) (i := (lB s.rows).length)
  have hfl := freeN_len ho
  (try (simp (disch := first | omega | (simp <;> omega) | fail) only [push_cast, ↓reduceIte, Nat.reduceEqDiff, Nat.reduceAdd, Nat.reduceMul, Nat.reduceSub, Nat.reduceLT, Int.reduceToNat]))
  refine (c_spec_reLines s _ m ho).call ?_
  unfold linesV
  have hL : (stS s (nSy s) (lB s.rows).length).1 = linS s := rfl
  rw [hL] at hlen
  rw [hL]
  clear hL
  (try (simp (disch := first | omega | (simp <;> omega) | fail) only [push_cast, ↓reduceIte, Nat.reduceEqDiff, Nat.reduceAdd, Nat.reduceMul, Nat.reduceSub, Nat.reduceLT, Int.reduceToNat]))
  refine (c_spec_reFree s m ho).call ?_
  have hlo : (lI (optL (freeN s))).length = (freeN s).length := by rw [lI_optL]
  (try (simp (disch := first | omega | (simp <;> omega) | fail) only [push_cast, ↓reduceIte, Nat.reduceEqDiff, Nat.reduceAdd, Nat.reduceMul, Nat.reduceSub, Nat.reduceLT, Int.reduceToNat, hlo]))
  refine T_for (freeN s).length (fun i e h' => ∃ v, Pins e [(1, .adr h.length 0), (4, eLs (nSy s) m (optN (linS s))), (6, v), (19, eI (optL (freeN s))), (20, .int .i64 (freeN s).length), (21, .int .i64 i)] ∧ h'.cells h.length = some [.int .i64 (nSy s), eBS s.rows, eO s.right] ∧ OwS h' (h.length + 1) 2 v i (((nullB s).take i).flatMap cB) ∧ (i = 0 → v = .nils)) ?_ ?_
  · (try (simp (disch := first | omega | (simp <;> omega) | fail) only [push_cast, ↓reduceIte, Nat.reduceEqDiff, Nat.reduceAdd, Nat.reduceMul, Nat.reduceSub, Nat.reduceLT, Int.reduceToNat, hsz]))
    exact ⟨_, rfl, .inl ⟨rfl, rfl, by simp⟩, fun _ => rfl⟩
  rintro i e h' hi ⟨v, hp, hb, hs, hvn⟩
  refine T_pins hp fun e => ?_
  have hbl := cells_lt hb
  (try (simp (disch := first | omega | (simp <;> omega) | fail) only [push_cast, ↓reduceIte, Nat.reduceEqDiff, Nat.reduceAdd, Nat.reduceMul, Nat.reduceSub, Nat.reduceLT, Int.reduceToNat]))
  first | refine goC_split (fun hc => ?_) (fun hc => ?_) | refine cnd_split (fun hc => ?_) (fun hc => ?_)
  · (try (simp only [decide_eq_true_eq, decide_eq_false_iff_not, Bool.not_eq_true', Bool.not_eq_false', Bool.and_eq_true, Bool.or_eq_true, Int.not_lt, Int.not_le] at hc)); (try (simp (disch := first | omega | (simp <;> omega) | fail) only [push_cast, ↓reduceIte, Nat.reduceEqDiff, Nat.reduceAdd, Nat.reduceMul, Nat.reduceSub, Nat.reduceLT, Int.reduceToNat]))
    have hi2 : i < (freeN s).length := by omega
    obtain ⟨c, hgc, hcn, hcf⟩ := free_get hi2
    have htk := nullB_take hi2
    rw [hgc, Int.toNat_natCast, ← hmm] at htk
    have hgi : (lI (optL (freeN s))).getD i 0 = (c : Int) := by rw [lI_optL, hgc]
    (try (simp (disch := first | omega | (simp <;> omega) | fail) only [push_cast, ↓reduceIte, Nat.reduceEqDiff, Nat.reduceAdd, Nat.reduceMul, Nat.reduceSub, Nat.reduceLT, Int.reduceToNat, hgi, hb]))
    refine (c_spec_biNew_own (nSy s) m (by omega) hm _).mono (fun x h1 hx => ?_) (fun _ _ h => h.elim)
    obtain ⟨bb, rfl, hbb, ⟨p, hp1⟩, hcb⟩ := hx
    have hl1 : h'.length ≤ h1.length := by rw [hp1]; simp
    have hk1 : ∀ c, c < h'.length → h1[c]? = h'[c]? := fun c hc => by rw [hp1]; exact List.getElem?_append_left hc
    have hbl1 := cells_lt hcb
    clear hp1
    (try (simp (disch := first | omega | (simp <;> omega) | fail) only [push_cast, ↓reduceIte, Nat.reduceEqDiff, Nat.reduceAdd, Nat.reduceMul, Nat.reduceSub, Nat.reduceLT, Int.reduceToNat]))
    refine (c_spec_biSet (nSy s) bb m 0 c _ (cells_app hcb) (by omega) (by omega)).mono (fun y h2 hy => ?_) (fun b' _ hb' => Or.inr (by omega))
    obtain ⟨y1, y2, y3⟩ := hy
    rw [two_pow_or] at y3
    simp only [List.length_append, List.length_cons, List.length_nil] at y1 y2
    have hk2 : ∀ c, c < h'.length → h2[c]? = h'[c]? := fun c hc => (y2 c (by omega) (by omega)).trans ((List.getElem?_append_left (by omega)).trans (hk1 c hc))
    have hb9 : h2.cells h1.length = some [.int .i64 (nSy s), .sl bb 0 1 m m] := cells_keep_ (y2 _ (by omega) (by omega)) (by rw [cells_h0]; rfl)
    (try (simp (disch := first | omega | (simp <;> omega) | fail) only [push_cast, ↓reduceIte, Nat.reduceEqDiff, Nat.reduceAdd, Nat.reduceMul, Nat.reduceSub, Nat.reduceLT, Int.reduceToNat, hb9]))
    refine (c_spec_reFill (nSy s) m bb (2 ^ c) (linS s) false h2 y3 (by omega) (by omega) (by omega) hn1).mono (fun y h3 hy => ?_) (fun b' _ hb' => Or.inr (by omega))
    obtain ⟨rfl, z1, z2, z3⟩ := hy
    have hk3 : ∀ c, c < h'.length → h3[c]? = h'[c]? := fun c hc => (z3 c (by omega) (by omega)).trans (hk2 c hc)
    have hrow : rows [AV.int .i64 0, .nils] 1 = [.int .i64 0, .nils] := rfl
    have hfl2 : fillA [.int .i64 0, .nils] [(0, 2, .agg [.int .i64 (nSy s), .sl bb 0 1 m m])] = some [.int .i64 (nSy s), .sl bb 0 1 m m] := rfl
    have hnb : nullN s c = fillS (nSy s) false (linS s) (2 ^ c) (nSy s) := rfl
    rw [← hnb] at z2
    (try (simp (disch := first | omega | (simp <;> omega) | fail) only [push_cast, ↓reduceIte, Nat.reduceEqDiff, Nat.reduceAdd, Nat.reduceMul, Nat.reduceSub, Nat.reduceLT, Int.reduceToNat, hrow, hfl2]))
    refine hs.app (by omega) (fun b hb => Or.inr (by omega)) (by simp; omega) (fun c hc => (List.getElem?_append_left (by omega)).trans (hk3 c hc)) (new := [.int .i64 (nSy s), .sl bb 0 1 m m]) (nt := cB ⟨nSy s, some (wordsN (nullN s c) m)⟩) ?_ rfl rfl (by omega) fun v2 h4 a1 a2 a3 a4 => ?_
    · refine .atom rfl ?_
      have := ow_map (h := h3 ++ [some (.cells [.int .i64 (nSy s), .sl bb 0 1 m m])]) (f := AV.int .i64) (l := wordsN (nullN s c) m) (G := fun c => h'.length ≤ c) (fun _ => rfl) (cells_app z2) wordsN_len hbb
      unfold eI
      simpa [wordsN_len] using this
    · have a1' : OwS h4 (h.length + 1) 2 v2 (i + 1) (((nullB s).take (i + 1)).flatMap cB) := by
        rw [htk, List.flatMap_append]
        exact .inr (by simpa using a1)
      have hb4 : h4.cells h.length = some [.int .i64 (nSy s), eBS s.rows, eO s.right] := cells_keep_ ((a3 _ (by omega)).trans ((List.getElem?_append_left (by omega)).trans (hk3 _ hbl))) hb
      (try (simp (disch := first | omega | (simp <;> omega) | fail) only [push_cast, ↓reduceIte, Nat.reduceEqDiff, Nat.reduceAdd, Nat.reduceMul, Nat.reduceSub, Nat.reduceLT, Int.reduceToNat]))
      all_goals (try exact ⟨_, rfl, hb4, a1', fun h5 => h5.elim⟩)
  · (try (simp only [decide_eq_true_eq, decide_eq_false_iff_not, Bool.not_eq_true', Bool.not_eq_false', Bool.and_eq_true, Bool.or_eq_true, Int.not_lt, Int.not_le] at hc)); (try (simp (disch := first | omega | (simp <;> omega) | fail) only [push_cast, ↓reduceIte, Nat.reduceEqDiff, Nat.reduceAdd, Nat.reduceMul, Nat.reduceSub, Nat.reduceLT, Int.reduceToNat]))
    have hie : i = (freeN s).length := by omega
    subst hie
    have hnl := nullB_len (s := s)
    rw [show (nullB s).take (freeN s).length = nullB s from List.take_of_length_le (by omega)] at hs
    (try (simp (disch := first | omega | (simp <;> omega) | fail) only [push_cast, ↓reduceIte, Nat.reduceEqDiff, Nat.reduceAdd, Nat.reduceMul, Nat.reduceSub, Nat.reduceLT, Int.reduceToNat]))
    refine ⟨.tup [eBS (optB (nullB s)), .bool true], .tup rfl fun k y t hy ht => ?_, rfl⟩
    rcases k with _ | _ | k
    · simp at hy ht
      subst hy ht
      unfold optB
      rcases hs with ⟨h1, h2, h3⟩ | ho2
      · rw [if_pos (List.eq_nil_of_length_eq_zero (by omega)), h1]
        exact .free free_nils
      · by_cases h0 : (freeN s).length = 0
        · have hne : nullB s = [] := List.eq_nil_of_length_eq_zero (by omega)
          rw [if_pos hne, hvn h0]
          exact .free free_nils
        · have hne : nullB s ≠ [] := fun h5 => h0 (by rw [h5] at hnl; simp at hnl; omega)
          rw [if_neg hne]
          have := ho2.vw1 (n0 := h.length) fun c hc => by omega
          rw [← hnl] at this
          exact this
    · simp at hy ht
      subst hy ht
      exact .free free_bool
    · simp at hy

/-- The vector that is being told, with its box. -/
def NuI (h h' : H) (n m b9 bb x : Nat) : Prop :=
  h.length ≤ h'.length ∧ (∀ c, c < h.length → h'[c]? = h[c]?) ∧ h'.cells b9 = some [.int .i64 n, .sl bb 0 1 m m] ∧ h'.cells bb = some ((wordsN x m).map (.int .i64)) ∧ h.length ≤ bb ∧ h.length ≤ b9 ∧ b9 ≠ bb
theorem NuI.app {h h' l : H} {n m b9 bb x : Nat} (hr : NuI h h' n m b9 bb x) : NuI h (h' ++ l) n m b9 bb x := by
  obtain ⟨h1, h2, h3, h4, h5, h6, h7⟩ := hr
  exact ⟨by simp; omega, fun c hc => (List.getElem?_append_left (by omega)).trans (h2 c hc), cells_app h3, cells_app h4, h5, h6, h7⟩
theorem NuI.put {h h' h2 : H} {n m b9 bb x y : Nat} (hr : NuI h h' n m b9 bb x) (hl : h2.length = h'.length) (hf : ∀ c, c ≠ bb → h2[c]? = h'[c]?) (hc : h2.cells bb = some ((wordsN y m).map (.int .i64))) : NuI h h2 n m b9 bb y := by
  obtain ⟨h1, h2, h3, h4, h5, h6, h7⟩ := hr
  exact ⟨by omega, fun c hc => (hf c (by omega)).trans (h2 c hc), cells_keep (hf _ h7) h3, hc, h5, h6, h7⟩
set_option maxHeartbeats 2000000 in
theorem c_impl_NullVectors_o (s : Sy) : FnO Try.prog 39 [eSy s] (· = nullOV s true) := by
  intro h
  refine enter (by kernel_rfl) e39 (by kernel_rfl) rfl fun hok => ?_
  simp only [r39, initEnv_1]
  (try (simp (disch := first | omega | (simp <;> omega) | fail) only [push_cast, ↓reduceIte, Nat.reduceEqDiff, Nat.reduceAdd, Nat.reduceMul, Nat.reduceSub, Nat.reduceLT, Int.reduceToNat]))
  refine (c_impl_IsSystem s).call ?_
  unfold nullOV
  cases hk : okSy s
  · (try (simp (disch := first | omega | (simp <;> omega) | fail) only [push_cast, ↓reduceIte, Nat.reduceEqDiff, Nat.reduceAdd, Nat.reduceMul, Nat.reduceSub, Nat.reduceLT, Int.reduceToNat]))
    exact ⟨_, (Ow.atom rfl (.atom rfl .nil)).tupOf, rfl⟩
  obtain ⟨m, ho⟩ := okE_n hk
  have hmm := ho.mm
  have hsz := ho.sz
  have hn1 := ho.n1
  have hn2 := ho.n2
  have hm := ho.hm
  have hnr := ho.nr
  have hll := stI_len (s := s) (n := nSy s) (i := (lB s.rows).length)
  have hfl := freeN_len ho
  (try (simp (disch := first | omega | (simp <;> omega) | fail) only [push_cast, ↓reduceIte, Nat.reduceEqDiff, Nat.reduceAdd, Nat.reduceMul, Nat.reduceSub, Nat.reduceLT, Int.reduceToNat]))
  refine (c_impl_reduced s _ m ho).use ?_
  rintro x ⟨L, hp, rfl⟩
  have hL : L.length ≤ 40 := by
    have := hp.length_eq
    omega
  have hlead : ∀ l ∈ L, lead (nSy s) l < nSy s := fun l hl => (lin_sim s).ei.lt l (hp.mem_iff.1 hl)
  have hfr : freeTo L (nSy s) (nSy s) = freeN s := by
    unfold freeN
    refine freeTo_congr fun c => ?_
    exact (hp.map (lead (nSy s))).mem_iff.trans ((lin_sim s).leads c).symm
  (try (simp (disch := first | omega | (simp <;> omega) | fail) only [push_cast, ↓reduceIte, Nat.reduceEqDiff, Nat.reduceAdd, Nat.reduceMul, Nat.reduceSub, Nat.reduceLT, Int.reduceToNat]))
  refine ((c_impl_free_o s _ m L ho.sz (by omega) (by omega) (by omega) (by omega)).fn).call ?_
  rw [hfr]
  have hlI : lI (some (freeN s)) = freeN s := rfl
  (try (simp (disch := first | omega | (simp <;> omega) | fail) only [push_cast, ↓reduceIte, Nat.reduceEqDiff, Nat.reduceAdd, Nat.reduceMul, Nat.reduceSub, Nat.reduceLT, Int.reduceToNat, hlI]))
  refine T_for (freeN s).length (fun i e h' => ∃ v, Pins e [(1, .adr h.length 0), (4, eQs (nSy s) m (optN L)), (6, v), (23, eI (some (freeN s))), (24, .int .i64 (freeN s).length), (25, .int .i64 i)] ∧ h'.cells h.length = some [.int .i64 (nSy s), eBS s.rows, eO s.right] ∧ Ow h' [v] [.ro 2 (((nullB s).take i).flatMap cB) i] (fun c => h.length + 1 ≤ c)) ?_ ?_
  · (try (simp (disch := first | omega | (simp <;> omega) | fail) only [push_cast, ↓reduceIte, Nat.reduceEqDiff, Nat.reduceAdd, Nat.reduceMul, Nat.reduceSub, Nat.reduceLT, Int.reduceToNat, hsz]))
    all_goals (try exact ⟨_, rfl, by simpa using ow_sl (h := h ++ [some (.cells [.int .i64 (nSy s), eBS s.rows, eO s.right]), some (.cells [])]) (b := h.length + 1) (n := 0) (sz := 2) (cs := []) (G := fun c => h.length + 1 ≤ c) (by rw [cells_hk]; rfl) rfl rfl .nil (Nat.le_refl _)⟩)
  rintro i e h' hi ⟨v, hp2, hb, hs⟩
  refine T_pins hp2 fun e => ?_
  have hbl := cells_lt hb
  (try (simp (disch := first | omega | (simp <;> omega) | fail) only [push_cast, ↓reduceIte, Nat.reduceEqDiff, Nat.reduceAdd, Nat.reduceMul, Nat.reduceSub, Nat.reduceLT, Int.reduceToNat]))
  first | refine goC_split (fun hc => ?_) (fun hc => ?_) | refine cnd_split (fun hc => ?_) (fun hc => ?_)
  · (try (simp only [decide_eq_true_eq, decide_eq_false_iff_not, Bool.not_eq_true', Bool.not_eq_false', Bool.and_eq_true, Bool.or_eq_true, Int.not_lt, Int.not_le] at hc)); (try (simp (disch := first | omega | (simp <;> omega) | fail) only [push_cast, ↓reduceIte, Nat.reduceEqDiff, Nat.reduceAdd, Nat.reduceMul, Nat.reduceSub, Nat.reduceLT, Int.reduceToNat]))
    have hi2 : i < (freeN s).length := by omega
    obtain ⟨c, hgc, hcn, hcf⟩ := free_get hi2
    have htk := nullB_take hi2
    rw [hgc, Int.toNat_natCast, ← hmm] at htk
    have hgi : (lI (some (freeN s))).getD i 0 = (c : Int) := hgc
    have hi3 : i < (lI (some (freeN s))).length := hi2
    (try (simp (disch := first | omega | (simp <;> omega) | fail) only [push_cast, ↓reduceIte, Nat.reduceEqDiff, Nat.reduceAdd, Nat.reduceMul, Nat.reduceSub, Nat.reduceLT, Int.reduceToNat, hgi, hb]))
    refine (c_impl_blank_own (nSy s) m (by omega) hm _).mono (fun x h1 hx => ?_) (fun _ _ h => h.elim)
    obtain ⟨bb, rfl, hbb, ⟨p, hp1⟩, hcb⟩ := hx
    have hl1 : h'.length ≤ h1.length := by rw [hp1]; simp
    have hk1 : ∀ c, c < h'.length → h1[c]? = h'[c]? := fun c hc => by rw [hp1]; exact List.getElem?_append_left hc
    have hbl1 := cells_lt hcb
    clear hp1
    have hne : h1.length ≠ bb := by omega
    have hN0 : NuI h' (h1 ++ [some (.cells [.int .i64 (nSy s), .sl bb 0 1 m m])]) (nSy s) m h1.length bb 0 := ⟨by simp; omega, fun c hc => (List.getElem?_append_left (by omega)).trans (hk1 c hc), by rw [cells_h0]; rfl, cells_app hcb, hbb, hl1, hne⟩
    (try (simp (disch := first | omega | (simp <;> omega) | fail) only [push_cast, ↓reduceIte, Nat.reduceEqDiff, Nat.reduceAdd, Nat.reduceMul, Nat.reduceSub, Nat.reduceLT, Int.reduceToNat]))
    refine (c_impl_Bits_set m 0 c h1.length 0 bb true _ _ hN0.2.2.1 rfl hN0.2.2.2.1 (by omega) (by omega) hne).mono (fun y h2 hy => ?_) (fun b' _ hb' => Or.inr (by omega))
    obtain ⟨y1, y2, y3⟩ := hy
    have hN1 := hN0.put y1 y2 y3
    rw [setB_zero] at hN1
    clear y1 y2 y3 hN0
    (try (simp (disch := first | omega | (simp <;> omega) | fail) only [push_cast, ↓reduceIte, Nat.reduceEqDiff, Nat.reduceAdd, Nat.reduceMul, Nat.reduceSub, Nat.reduceLT, Int.reduceToNat, lenA_eQs, lL_optN]))
    refine T_for L.length (fun k e h2 => Pins e [(1, .adr h.length 0), (4, eQs (nSy s) m (optN L)), (6, v), (8, .int .i64 c), (9, .adr h1.length 0), (23, eI (some (freeN s))), (24, .int .i64 (freeN s).length), (25, .int .i64 i), (34, eQs (nSy s) m (optN L)), (35, .int .i64 L.length), (36, .int .i64 k)] ∧ NuI h' h2 (nSy s) m h1.length bb (setP (nSy s) (fun e => e.testBit c) (L.take k) (2 ^ c))) ?_ ?_
    · (try (simp (disch := first | omega | (simp <;> omega) | fail) only [push_cast, ↓reduceIte, Nat.reduceEqDiff, Nat.reduceAdd, Nat.reduceMul, Nat.reduceSub, Nat.reduceLT, Int.reduceToNat]))
      all_goals (try exact hN1)
    clear hN1
    rintro k e h2 hk2 ⟨hp3, hr⟩
    refine T_pins hp3 fun e => ?_
    (try (simp (disch := first | omega | (simp <;> omega) | fail) only [push_cast, ↓reduceIte, Nat.reduceEqDiff, Nat.reduceAdd, Nat.reduceMul, Nat.reduceSub, Nat.reduceLT, Int.reduceToNat]))
    first | refine goC_split (fun hd => ?_) (fun hd => ?_) | refine cnd_split (fun hd => ?_) (fun hd => ?_)
    · (try (simp only [decide_eq_true_eq, decide_eq_false_iff_not, Bool.not_eq_true', Bool.not_eq_false', Bool.and_eq_true, Bool.or_eq_true, Int.not_lt, Int.not_le] at hd)); (try (simp (disch := first | omega | (simp <;> omega) | fail) only [push_cast, ↓reduceIte, Nat.reduceEqDiff, Nat.reduceAdd, Nat.reduceMul, Nat.reduceSub, Nat.reduceLT, Int.reduceToNat]))
      have hk3 : k < L.length := by omega
      have hiq : iaddrA 4 (eQs (nSy s) m (optN L)) (.int .i64 (k : Int)) = some (.rad (L.flatMap (cQ (nSy s) m)) (k * 4)) := by
        rw [iaddr_eQs (by omega) (by rw [lL_optN]; omega), lL_optN]
        rfl
      have hld := ld_Q (n := nSy s) (m := m) hk3
      have hst := setP_take (n := nSy s) (g := fun e => e.testBit c) (y := 2 ^ c) hk3
      have hlt := hlead _ (getD_mem (d := 0) hk3)
      generalize L.getD k 0 = l at hst hld hlt
      have hcx : cQ (nSy s) m l = [.int .i64 (nSy s), eI (some (wordsN (l % 2 ^ nSy s) m)), .bool (l.testBit (nSy s)), .int .u64 (ofN (nSy s) l : Int)] := rfl
      rw [hcx] at hld
      have hr0 := hr.app (l := [some (.cells (cQ (nSy s) m l))])
      obtain ⟨r1, r2, r3, r4, r5, r6, r7⟩ := hr0
      have hlh : h.length ≤ h2.length := by
        have := hr.1
        omega
      have hbl2 := cells_lt hr.2.2.2.1
      have hnx := c_impl_Bits_next2 (some (wordsN (l % 2 ^ nSy s) m)) (nSy s) (l % 2 ^ nSy s) m (cQ (nSy s) m l) 0 rfl rfl rfl (by omega) (by omega)
      rw [lead_mod] at hnx
      have hat := c_impl_Bits_at (some (wordsN (l % 2 ^ nSy s) m)) (l % 2 ^ nSy s) m c (cQ (nSy s) m l) 0 rfl rfl (by omega) (by omega)
      have hmt : (l % 2 ^ nSy s).testBit c = l.testBit c := by
        rw [Nat.testBit_mod_two_pow]
        simp [hcn]
      rw [hmt] at hat
      (try (simp (disch := first | omega | (simp <;> omega) | fail) only [push_cast, ↓reduceIte, Nat.reduceEqDiff, Nat.reduceAdd, Nat.reduceMul, Nat.reduceSub, Nat.reduceLT, Int.reduceToNat, hiq, hld]))
      refine hnx.lendL ?_ own_int ?_
      · exact .adr (cs := cQ (nSy s) m l) (by rw [cells_h0]; rfl) free_cQ (.free free_int (.free free_bool .nil))
      (try (simp (disch := first | omega | (simp <;> omega) | fail) only [push_cast, ↓reduceIte, Nat.reduceEqDiff, Nat.reduceAdd, Nat.reduceMul, Nat.reduceSub, Nat.reduceLT, Int.reduceToNat]))
      refine hat.lendL ?_ own_bool ?_
      · exact .adr (cs := cQ (nSy s) m l) (by rw [cells_h0]; rfl) free_cQ (.free free_int .nil)
      (try (simp (disch := first | omega | (simp <;> omega) | fail) only [push_cast, ↓reduceIte, Nat.reduceEqDiff, Nat.reduceAdd, Nat.reduceMul, Nat.reduceSub, Nat.reduceLT, Int.reduceToNat]))
      refine (c_impl_Bits_set m _ (lead (nSy s) l) h1.length 0 bb (l.testBit c) _ _ r3 rfl r4 (by omega) (by omega) r7).mono (fun y h3 hy => ?_) (fun b' _ hb' => Or.inr (by omega))
      obtain ⟨y1, y2, y3⟩ := hy
      have hfin := (hr.app (l := [some (.cells (cQ (nSy s) m l))])).put y1 y2 y3
      rw [← hst] at hfin
      (try (simp (disch := first | omega | (simp <;> omega) | fail) only [push_cast, ↓reduceIte, Nat.reduceEqDiff, Nat.reduceAdd, Nat.reduceMul, Nat.reduceSub, Nat.reduceLT, Int.reduceToNat]))
      all_goals (try exact hfin)
    · (try (simp only [decide_eq_true_eq, decide_eq_false_iff_not, Bool.not_eq_true', Bool.not_eq_false', Bool.and_eq_true, Bool.or_eq_true, Int.not_lt, Int.not_le] at hd)); (try (simp (disch := first | omega | (simp <;> omega) | fail) only [push_cast, ↓reduceIte, Nat.reduceEqDiff, Nat.reduceAdd, Nat.reduceMul, Nat.reduceSub, Nat.reduceLT, Int.reduceToNat]))
      have hke : k = L.length := by omega
      subst hke
      rw [List.take_length, null_eq hp hcn hcf] at hr
      obtain ⟨r1, r2, r3, r4, r5, r6, r7⟩ := hr
      have hrow : rows [AV.int .i64 0, .nils] 1 = [.int .i64 0, .nils] := rfl
      have hfl2 : fillA [.int .i64 0, .nils] [(0, 2, .agg [.int .i64 (nSy s), .sl bb 0 1 m m])] = some [.int .i64 (nSy s), .sl bb 0 1 m m] := rfl
      (try (simp (disch := first | omega | (simp <;> omega) | fail) only [push_cast, ↓reduceIte, Nat.reduceEqDiff, Nat.reduceAdd, Nat.reduceMul, Nat.reduceSub, Nat.reduceLT, Int.reduceToNat, hrow, hfl2, r3]))
      refine (show OwS h' (h.length + 1) 2 v i _ from .inr hs).app (by omega) (fun b hb => Or.inr (by omega)) (by simp; omega) (fun c hc => (List.getElem?_append_left (by omega)).trans (r2 c hc)) (new := [.int .i64 (nSy s), .sl bb 0 1 m m]) (nt := cB ⟨nSy s, some (wordsN (nullN s c) m)⟩) ?_ rfl rfl (by omega) fun v2 h4 a1 a2 a3 a4 => ?_
      · refine .atom rfl ?_
        have := ow_map (h := h2 ++ [some (.cells [.int .i64 (nSy s), .sl bb 0 1 m m])]) (f := AV.int .i64) (l := wordsN (nullN s c) m) (G := fun c => h'.length ≤ c) (fun _ => rfl) (cells_app r4) wordsN_len r5
        unfold eI
        simpa [wordsN_len] using this
      · have a1' : Ow h4 [v2] [.ro 2 (((nullB s).take (i + 1)).flatMap cB) (i + 1)] (fun c => h.length + 1 ≤ c) := by
          rw [htk, List.flatMap_append]
          simpa using a1
        have hb4 : h4.cells h.length = some [.int .i64 (nSy s), eBS s.rows, eO s.right] := cells_keep_ ((a3 _ (by omega)).trans ((List.getElem?_append_left (by omega)).trans (r2 _ hbl))) hb
        (try (simp (disch := first | omega | (simp <;> omega) | fail) only [push_cast, ↓reduceIte, Nat.reduceEqDiff, Nat.reduceAdd, Nat.reduceMul, Nat.reduceSub, Nat.reduceLT, Int.reduceToNat]))
        all_goals (try exact ⟨_, rfl, hb4, a1'⟩)
  · (try (simp only [decide_eq_true_eq, decide_eq_false_iff_not, Bool.not_eq_true', Bool.not_eq_false', Bool.and_eq_true, Bool.or_eq_true, Int.not_lt, Int.not_le] at hc)); (try (simp (disch := first | omega | (simp <;> omega) | fail) only [push_cast, ↓reduceIte, Nat.reduceEqDiff, Nat.reduceAdd, Nat.reduceMul, Nat.reduceSub, Nat.reduceLT, Int.reduceToNat]))
    have hie : i = (freeN s).length := by omega
    subst hie
    have hnl := nullB_len (s := s)
    rw [show (nullB s).take (freeN s).length = nullB s from List.take_of_length_le (by omega), ← hnl] at hs
    (try (simp (disch := first | omega | (simp <;> omega) | fail) only [push_cast, ↓reduceIte, Nat.reduceEqDiff, Nat.reduceAdd, Nat.reduceMul, Nat.reduceSub, Nat.reduceLT, Int.reduceToNat]))
    refine ⟨_, (Ow.two (F' := fun _ => False) hs (.atom rfl .nil) (fun c hc => by omega) (fun _ h => h.elim)).tupOf, rfl⟩

theorem fits_cons {s : Sh} {ss : List Sh} {zs : List AV} (h : Fits (s :: ss) zs) : ∃ xs ys, zs = xs ++ ys ∧ Fit s xs ∧ Fits ss ys := by
  cases h with
  | cons h hr => exact ⟨_, _, rfl, h, hr⟩
theorem fits_nil {zs : List AV} (h : Fits [] zs) : zs = [] := by cases h; rfl
theorem fit_int {zs : List AV} (h : Fit (.int .i64) zs) : ∃ n : Int, zs = [.int .i64 n] ∧ -9223372036854775808 ≤ n ∧ n ≤ 9223372036854775807 := by
  cases h with
  | int h1 h2 => exact ⟨_, rfl, by simpa [IntKind.min, IntKind.signed, IntKind.bits] using h1, by simpa [IntKind.max, IntKind.signed, IntKind.bits] using h2⟩
theorem fit_str {zs : List AV} (h : Fit .str zs) : ∃ s : Str, zs = [.str s] ∧ s.length ≤ 9223372036854775807 := by
  cases h with
  | str h => exact ⟨_, rfl, h⟩
theorem fit_st {fs : List Sh} {zs : List AV} (h : Fit (.st fs) zs) : Fits fs zs := by
  cases h with
  | st h => exact h
theorem flatMap_eq {α β : Type} {f g : α → List β} : ∀ {l : List α}, (∀ a ∈ l, f a = g a) → l.flatMap f = l.flatMap g
  | [], _ => rfl
  | a :: l, h => by
    rw [List.flatMap_cons, List.flatMap_cons, h a (by simp), flatMap_eq fun b hb => h b (by simp [hb])]
theorem fit_strs {zs : List AV} (h : Fit (.sl .str 1) zs) : ∃ a : Option (List Str), zs = [eS a] := by
  cases h with
  | nil => exact ⟨none, rfl⟩
  | @sl _ _ n g hm hl h =>
    have hg : ∀ i, ∃ s : Str, i < n → g i = [.str s] := fun i => by
      by_cases hi : i < n
      · obtain ⟨s, hs, _⟩ := fit_str (h i hi)
        exact ⟨s, fun _ => hs⟩
      · exact ⟨[], fun h => absurd h hi⟩
    refine ⟨some ((List.range n).map fun i => Classical.choose (hg i)), ?_⟩
    simp only [eS, List.length_map, List.length_range, List.map_map]
    congr 2
    rw [← List.flatMap_singleton' ((List.range n).map _), List.flatMap_map]
    refine flatMap_eq fun i hi => ?_
    rw [Classical.choose_spec (hg i) (List.mem_range.1 hi)]
    rfl
theorem argsFit_cons {s : Sh} {ss : List Sh} {zs : List AV} (h : ArgsFit (s :: ss) zs) : ∃ xs ys, zs = argOf s xs :: ys ∧ Fit s xs ∧ ArgsFit ss ys := by
  cases h with
  | cons h hr => exact ⟨_, _, rfl, h, hr⟩
theorem argsFit_nil {zs : List AV} (h : ArgsFit [] zs) : zs = [] := by cases h; rfl

theorem fit_rows {α : Type} [Inhabited α] {s : Sh} {w : Nat} {f : α → List AV} (hf : ∀ xs, Fit s xs → ∃ a, xs = f a) {zs : List AV} (h : Fit (.sl s w) zs) : zs = [.nils] ∨ ∃ l : List α, zs = [.ro w (l.flatMap f) l.length] := by
  cases h with
  | nil => exact .inl rfl
  | @sl _ _ n g hm hl h =>
    have hg : ∀ i, ∃ a : α, i < n → g i = f a := fun i => by
      by_cases hi : i < n
      · obtain ⟨a, ha⟩ := hf _ (h i hi)
        exact ⟨a, fun _ => ha⟩
      · exact ⟨default, fun h => absurd h hi⟩
    refine .inr ⟨(List.range n).map fun i => Classical.choose (hg i), ?_⟩
    rw [List.length_map, List.length_range, List.flatMap_map]
    congr 2
    exact flatMap_eq fun i hi => Classical.choose_spec (hg i) (List.mem_range.1 hi)
theorem flatMap_one {α : Type} {f : α → AV} : ∀ {l : List α}, l.flatMap (fun a => [f a]) = l.map f
  | [] => rfl
  | a :: l => by rw [List.flatMap_cons, flatMap_one]; rfl
theorem fit_ints {zs : List AV} (h : Fit (.sl (.int .i64) 1) zs) : ∃ a : Option (List Int), zs = [eI a] := by
  rcases fit_rows (f := fun n : Int => [AV.int .i64 n]) (fun xs hx => by obtain ⟨n, hn, _⟩ := fit_int hx; exact ⟨n, hn⟩) h with rfl | ⟨l, rfl⟩
  · exact ⟨none, rfl⟩
  · exact ⟨some l, by rw [flatMap_one]; rfl⟩

def shBits2 : Sh := .st [.int .i64, .sl (.int .i64) 1]
theorem fit_cB {zs : List AV} (h : Fit shBits2 zs) : ∃ b, zs = cB b := by
  obtain ⟨x1, y1, rfl, h1, h⟩ := fits_cons (fit_st h)
  obtain ⟨x2, y2, rfl, h2, h⟩ := fits_cons h
  obtain rfl := fits_nil h
  obtain ⟨n, rfl, _⟩ := fit_int h1
  obtain ⟨a, rfl⟩ := fit_ints h2
  exact ⟨⟨n, a⟩, rfl⟩
theorem fit_bool {zs : List AV} (h : Fit .bool zs) : ∃ b : Bool, zs = [.bool b] := by
  cases h with
  | bool b => exact ⟨b, rfl⟩
theorem fit_bools {zs : List AV} (h : Fit (.sl .bool 1) zs) : ∃ a : Option (List Bool), zs = [eO a] := by
  rcases fit_rows (f := fun n : Bool => [AV.bool n]) (fun xs hx => by obtain ⟨n, hn⟩ := fit_bool hx; exact ⟨n, hn⟩) h with rfl | ⟨l, rfl⟩
  · exact ⟨none, rfl⟩
  · exact ⟨some l, by rw [flatMap_one]; rfl⟩
theorem fit_bitss {zs : List AV} (h : Fit (.sl shBits2 2) zs) : ∃ a : Option (List Bt), zs = [eBS a] := by
  rcases fit_rows (f := cB) (fun xs hx => fit_cB hx) h with rfl | ⟨l, rfl⟩
  · exact ⟨none, rfl⟩
  · exact ⟨some l, rfl⟩
def shSys : Sh := .st [.int .i64, .sl shBits2 2, .sl .bool 1]
theorem fit_sys {zs : List AV} (h : Fit shSys zs) : ∃ s, argOf shSys zs = eSy s := by
  obtain ⟨x1, y1, rfl, h1, h⟩ := fits_cons (fit_st h)
  obtain ⟨x2, y2, rfl, h2, h⟩ := fits_cons h
  obtain ⟨x3, y3, rfl, h3, h⟩ := fits_cons h
  obtain rfl := fits_nil h
  obtain ⟨n, rfl, _⟩ := fit_int h1
  obtain ⟨a, rfl⟩ := fit_bitss h2
  obtain ⟨b, rfl⟩ := fit_bools h3
  exact ⟨⟨n, a, b⟩, rfl⟩
theorem sameSy_cp {s : Sy} : (decide ((cpSy s).size = (cpSy s).size) && (sameBS (lB (cpSy s).rows) (lB (cpSy s).rows) && decide (lO (cpSy s).right = lO (cpSy s).right))) = true := by
  have h1 : sameBS (lB (cpSy s).rows) (lB (cpSy s).rows) = true := sameBS_cp _
  rw [h1]
  simp

def sh_FnExactNullVectors : List Sh := [shSys]
theorem law_FnExactNullVectors (ys : List AV) (hy : ArgsFit sh_FnExactNullVectors ys) : Call Try.prog 9 ys [] Nowhere (fun x _ => x = .bool true) := by
  obtain ⟨x1, y1, rfl, h1, hy⟩ := argsFit_cons hy
  obtain rfl := argsFit_nil hy
  obtain ⟨s, he⟩ := fit_sys h1
  rw [he]
  refine (?_ : ∀ h, Call Try.prog 9 [eSy s] h Nowhere (fun x _ => x = .bool true)) []
  intro h
  refine enter (by kernel_rfl) e9 (by kernel_rfl) rfl fun hok => ?_
  simp only [r9, initEnv_1]
  (try (simp (disch := first | omega | (simp <;> omega) | fail) only [push_cast, ↓reduceIte, Nat.reduceEqDiff, Nat.reduceAdd, Nat.reduceMul, Nat.reduceSub, Nat.reduceLT, Int.reduceToNat]))
  refine (c_laws_szSystem s 1048576 (by omega) (by omega)).call ?_
  (try (simp (disch := first | omega | (simp <;> omega) | fail) only [push_cast, ↓reduceIte, Nat.reduceEqDiff, Nat.reduceAdd, Nat.reduceMul, Nat.reduceSub, Nat.reduceLT, Int.reduceToNat]))
  first | refine goC_split (fun hd => ?_) (fun hd => ?_) | refine cnd_split (fun hd => ?_) (fun hd => ?_)
  · (try (simp only [decide_eq_true_eq, decide_eq_false_iff_not, Bool.not_eq_true', Bool.not_eq_false', Bool.and_eq_true, Bool.or_eq_true, Int.not_lt, Int.not_le] at hd)); (try (simp (disch := first | omega | (simp <;> omega) | fail) only [push_cast, ↓reduceIte, Nat.reduceEqDiff, Nat.reduceAdd, Nat.reduceMul, Nat.reduceSub, Nat.reduceLT, Int.reduceToNat]))
  (try (simp only [decide_eq_true_eq, decide_eq_false_iff_not, Bool.not_eq_true', Bool.not_eq_false', Bool.and_eq_true, Bool.or_eq_true, Int.not_lt, Int.not_le] at hd)); (try (simp (disch := first | omega | (simp <;> omega) | fail) only [push_cast, ↓reduceIte, Nat.reduceEqDiff, Nat.reduceAdd, Nat.reduceMul, Nat.reduceSub, Nat.reduceLT, Int.reduceToNat]))
  have hw := szv_ok hd
  have hw2 : wSy s ≤ 1048576 := by omega
  have hoff := offB_cp (s := s)
  refine (c_laws_toSystem s hw2).call ?_
  (try (simp (disch := first | omega | (simp <;> omega) | fail) only [push_cast, ↓reduceIte, Nat.reduceEqDiff, Nat.reduceAdd, Nat.reduceMul, Nat.reduceSub, Nat.reduceLT, Int.reduceToNat]))
  refine (c_spec_NullVectors (cpSy s)).call ?_
  obtain ⟨a, b, q, hspec, himpl, hab, hrl⟩ : ∃ a b q, nullOV (cpSy s) false = .tup [eBS a, .bool q] ∧ FnO Try.prog 39 [eSy (cpSy s)] (· = .tup [eBS b, .bool q]) ∧ lB a = lB b ∧ offB (lB b) ≤ 1000 := by
    have himpl := c_impl_NullVectors_o (cpSy s)
    unfold nullOV at himpl ⊢
    cases hk : okSy (cpSy s)
    · rw [hk] at himpl
      exact ⟨none, none, false, rfl, himpl, rfl, by simp [lB, offB]⟩
    · rw [hk] at himpl
      obtain ⟨m, ho⟩ := okE_n hk
      exact ⟨optB (nullB (cpSy s)), some (nullB (cpSy s)), true, rfl, himpl, lB_optB, off_nullB ho⟩
  rw [hspec]
  (try (simp (disch := first | omega | (simp <;> omega) | fail) only [push_cast, ↓reduceIte, Nat.reduceEqDiff, Nat.reduceAdd, Nat.reduceMul, Nat.reduceSub, Nat.reduceLT, Int.reduceToNat]))
  refine (c_laws_toSystem_o s hw2).go fun x t h1 hR hx1 how => ?_
  subst hR
  have hb1 : H.cells h1 h.length = some [.int .i64 s.size, eBS s.rows, eO s.right] := hx1.cells (by rw [cells_h0]; rfl)
  obtain ⟨b1, b2, rfl⟩ := ow_sys how
  have hl1 := hx1.len
  simp only [List.length_append, List.length_cons, List.length_nil] at hl1 how
  (try (simp (disch := first | omega | (simp <;> omega) | fail) only [push_cast, ↓reduceIte, Nat.reduceEqDiff, Nat.reduceAdd, Nat.reduceMul, Nat.reduceSub, Nat.reduceLT, Int.reduceToNat, hb1]))
  refine himpl.goL (.cons (Ext.refl.app.ow how).vw0 .nil) fun y t h2 hR hx2 how2 => ?_
  subst hR
  obtain ⟨g0, rfl, how3⟩ := ow_tup2 how2
  clear how2
  have og : one g0 = true ∧ cellsOf g0 = [g0] := by
    cases b with
    | none => have : g0 = .nils := how3.atomOf rfl; rw [this]; exact ⟨rfl, rfl⟩
    | some l => obtain ⟨bb, e⟩ := Ow.sl1 (show Ow h2 [g0] [.ro 2 _ _] _ from how3); rw [e]; exact ⟨rfl, rfl⟩
  have hl2 := hx2.len
  simp only [List.length_append, List.length_cons, List.length_nil] at hl2 how3
  have hb2 : H.cells h2 h.length = some [.int .i64 s.size, eBS s.rows, eO s.right] := hx2.cells (cells_app hb1)
  have hx0 : H.cells h2 h1.length = some [.int .i64 s.size, .sl b1 0 2 ((lB s.rows).map cpB).length ((lB s.rows).map cpB).length, .sl b2 0 1 (lO s.right).length (lO s.right).length] := hx2.cells (by rw [cells_h0]; rfl)
  have how1 : Ow h2 [.agg [.int .i64 s.size, .sl b1 0 2 ((lB s.rows).map cpB).length ((lB s.rows).map cpB).length, .sl b2 0 1 (lO s.right).length (lO s.right).length]] [eSy (cpSy s)] (Seg (h.length + 1) h1) := hx2.ow2 (Ext.refl.app.ow how) (by simp)
  clear how hx1
  have heqI : Fn Try.prog 40 [eBS b, eBS a] (· = .bool true) := by
    have := c_laws_eqBitsS b a
    rw [hab] at this
    have h2 : sameBS (lB b) (lB b) = true := by
      have : ∀ (l : List Bt) n, sameFromB l l n = true := by
        intro l n
        induction n with
        | zero => rfl
        | succ n ih => simp [sameFromB, ih, sameB]
      simp [sameBS, this]
    rw [h2] at this
    exact this
  (try (simp (disch := first | omega | (simp <;> omega) | fail) only [push_cast, ↓reduceIte, Nat.reduceEqDiff, Nat.reduceAdd, Nat.reduceMul, Nat.reduceSub, Nat.reduceLT, Int.reduceToNat, hb2]))
  refine heqI.lendL (.cons how3.vw0 (.free free_eBS .nil)) own_bool ?_
  (try (simp (disch := first | omega | (simp <;> omega) | fail) only [push_cast, ↓reduceIte, Nat.reduceEqDiff, Nat.reduceAdd, Nat.reduceMul, Nat.reduceSub, Nat.reduceLT, Int.reduceToNat, hb2, hx0]))
  refine (c_laws_toSystem s hw2).call ?_
  (try (simp (disch := first | omega | (simp <;> omega) | fail) only [push_cast, ↓reduceIte, Nat.reduceEqDiff, Nat.reduceAdd, Nat.reduceMul, Nat.reduceSub, Nat.reduceLT, Int.reduceToNat, hb2, hx0]))
  refine (c_laws_eqSystem (cpSy s) (cpSy s)).lendL (.cons how1.vw0 (.free free_eSy .nil)) own_bool ?_
  rw [sameSy_cp]
  (try (simp (disch := first | omega | (simp <;> omega) | fail) only [push_cast, ↓reduceIte, Nat.reduceEqDiff, Nat.reduceAdd, Nat.reduceMul, Nat.reduceSub, Nat.reduceLT, Int.reduceToNat, hb2, hx0]))
  refine (c_laws_markSystem _ (cpSy s) _ 1 _ how1 (fun c hc => by have := hc.2; omega) (by omega) (by omega)).mono (fun x h3 hx => ?_) (fun c _ hc => Or.inr (by have := hc.1; omega))
  obtain ⟨rfl, hk1⟩ := hx
  have hb3 : H.cells h3 h.length = some [.int .i64 s.size, eBS s.rows, eO s.right] := cells_keep_ (hk1.2 _ (by omega) fun hc => by have := hc.1; omega) hb2
  have how4 := hk1.ow how3 fun c hc => ⟨hc.2, fun hd => by have := hc.1; have := hd.2; omega⟩
  have hl3 := hk1.1
  (try (simp (disch := first | omega | (simp <;> omega) | fail) only [push_cast, ↓reduceIte, Nat.reduceEqDiff, Nat.reduceAdd, Nat.reduceMul, Nat.reduceSub, Nat.reduceLT, Int.reduceToNat, hb3]))
  refine heqI.lendL (.cons how4.vw0 (.free free_eBS .nil)) own_bool ?_
  (try (simp (disch := first | omega | (simp <;> omega) | fail) only [push_cast, ↓reduceIte, Nat.reduceEqDiff, Nat.reduceAdd, Nat.reduceMul, Nat.reduceSub, Nat.reduceLT, Int.reduceToNat, hb3]))
  refine (c_laws_markBitsS g0 b _ 1 _ how4 (by omega) (by omega)).mono (fun x h4 hx => ?_) (fun c _ hc => Or.inr (by have := hc.1; omega))
  obtain ⟨rfl, hk2, how5⟩ := hx
  have hb4 : H.cells h4 h.length = some [.int .i64 s.size, eBS s.rows, eO s.right] := cells_keep_ (hk2.2 _ fun hc => by have := hc.1; omega) hb3
  (try (simp (disch := first | omega | (simp <;> omega) | fail) only [push_cast, ↓reduceIte, Nat.reduceEqDiff, Nat.reduceAdd, Nat.reduceMul, Nat.reduceSub, Nat.reduceLT, Int.reduceToNat, hb4]))
  refine (c_laws_heldBitsS b 1 (by omega) (by omega)).lendL (.cons how5.vw0 (.free free_int .nil)) own_int ?_
  (try (simp (disch := first | omega | (simp <;> omega) | fail) only [push_cast, ↓reduceIte, Nat.reduceEqDiff, Nat.reduceAdd, Nat.reduceMul, Nat.reduceSub, Nat.reduceLT, Int.reduceToNat, hb4]))
  refine (c_laws_toSystem s hw2).call ?_
  (try (simp (disch := first | omega | (simp <;> omega) | fail) only [push_cast, ↓reduceIte, Nat.reduceEqDiff, Nat.reduceAdd, Nat.reduceMul, Nat.reduceSub, Nat.reduceLT, Int.reduceToNat, hb4]))
  refine himpl.fn.call ?_
  (try (simp (disch := first | omega | (simp <;> omega) | fail) only [push_cast, ↓reduceIte, Nat.reduceEqDiff, Nat.reduceAdd, Nat.reduceMul, Nat.reduceSub, Nat.reduceLT, Int.reduceToNat, hb4]))
  refine heqI.call ?_
  (try (simp (disch := first | omega | (simp <;> omega) | fail) only [push_cast, ↓reduceIte, Nat.reduceEqDiff, Nat.reduceAdd, Nat.reduceMul, Nat.reduceSub, Nat.reduceLT, Int.reduceToNat, hb4]))
  refine (c_laws_heldBitsS b 1 (by omega) (by omega)).lendL (.cons how5.vw0 (.free free_int .nil)) own_int ?_
  (try (simp (disch := first | omega | (simp <;> omega) | fail) only [push_cast, ↓reduceIte, Nat.reduceEqDiff, Nat.reduceAdd, Nat.reduceMul, Nat.reduceSub, Nat.reduceLT, Int.reduceToNat, hb4]))

end Go.Proofs.Ytgkdnpigbpkehaa.M
