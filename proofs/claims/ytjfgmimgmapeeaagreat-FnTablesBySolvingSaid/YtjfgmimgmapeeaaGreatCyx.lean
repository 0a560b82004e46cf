/-
  What the functions return.
-/
import Derived.Test.YtjfgmimgmapeeaaGreatFyx
import Derived.Test.YtjfgmimgmapeeaaGreatCyv
namespace Go.Proofs.YtjfgmimgmapeeaaGreat.M
open Go Go.RowKit
set_option linter.unusedVariables false
set_option linter.unusedSimpArgs false
set_option maxRecDepth 4000

theorem risFrom_app {l l2 : List Int} {lo hi : Int} : ∀ {k}, k ≤ l.length → risFrom (l ++ l2) lo hi k = risFrom l lo hi k
  | 0, _ => rfl
  | k + 1, hk => by
    have h1 : (l ++ l2).getD k 0 = l.getD k 0 := by
      rw [List.getD_eq_getElem?_getD, List.getD_eq_getElem?_getD, List.getElem?_append_left (by omega)]
    have h2 : (l ++ l2).getD (k - 1) 0 = l.getD (k - 1) 0 := by
      rw [List.getD_eq_getElem?_getD, List.getD_eq_getElem?_getD, List.getElem?_append_left (by omega)]
    simp only [risFrom, risFrom_app (show k ≤ l.length by omega), h1, h2]
theorem ris_setTo {M R : Nat} (hM : ∀ i, R ≤ i → M.testBit i = false) : ∀ i : Nat, risFrom (setTo M i) 0 ((R : Int) - 1) (setTo M i).length = true ∧ ∀ x ∈ setTo M i, x < (i : Int)
  | 0 => ⟨rfl, fun x hx => by cases hx⟩
  | i + 1 => by
    obtain ⟨h1, h2⟩ := ris_setTo hM i
    rw [setTo_succ]
    by_cases hb : M.testBit i = true
    · rw [if_pos hb]
      have hiR : i < R := by
        rcases Nat.lt_or_ge i R with h | h
        · exact h
        · rw [hM i h] at hb
          cases hb
      refine ⟨?_, fun x hx => ?_⟩
      · rw [List.length_append, List.length_cons, List.length_nil]
        have hg : (setTo M i ++ [(i : Int)]).getD (setTo M i).length 0 = (i : Int) := by simp
        simp only [risFrom, risFrom_app (Nat.le_refl _), h1, hg, Bool.true_and, Bool.and_eq_true, Bool.or_eq_true, decide_eq_true_eq]
        refine ⟨by omega, ?_⟩
        rcases Nat.eq_zero_or_pos (setTo M i).length with h0 | h0
        · exact .inl h0
        · right
          have h3 : (setTo M i ++ [(i : Int)]).getD ((setTo M i).length - 1) 0 ∈ setTo M i := by
            rw [List.getD_eq_getElem?_getD, List.getElem?_append_left (by omega), List.getElem?_eq_getElem (by omega)]
            exact List.getElem_mem _
          exact h2 _ h3
      · rcases List.mem_append.1 hx with h | h
        · have := h2 x h
          omega
        · rw [List.mem_singleton.1 h]
          omega
    · rw [if_neg hb]
      exact ⟨h1, fun x hx => by have := h2 x hx; omega⟩
theorem refO_some {s : Sy} {m : Nat} (ho : OkE s (nSy s) m) (hk : okSy s = true) (h0 : refN s ≠ 0) : lI (refO s) = setL (ofN (nSy s) (refN s)) := by
  unfold refO
  rw [if_pos hk, lI_optL]
theorem ref_self {s : Sy} {m : Nat} (ho : OkE s (nSy s) m) (hk : okSy s = true) (h0 : refN s ≠ 0) : refV s (lI (refO s)) = .tup [.bool true, .bool true] ∧ decide (0 < (lI (refO s)).length) = true := by
  have h1 := ref_sum ho h0
  obtain ⟨q1, _, _⟩ := (elim_s s).ref h0
  obtain ⟨_, _, q3⟩ := sp_sum ho q1
  have h2 := (ris_setTo (M := ofN (nSy s) (refN s)) (R := (lB s.rows).length) (fun i hi => q3 i hi) 64).1
  rw [setTo_all] at h2
  rw [refO_some ho hk h0]
  refine ⟨?_, ?_⟩
  · unfold refV
    rw [if_pos hk, if_pos h2, h1]
  · rw [decide_eq_true_eq]
    rcases Nat.eq_zero_or_pos (setL (ofN (nSy s) (refN s))).length with h3 | h3
    · rw [List.eq_nil_of_length_eq_zero h3] at h1
      cases h1
    · exact h3
/-! ### what can be peeled is not refused -/
theorem cnt_ge1 {E : List (List Int)} {gone : List Bool} {p : Int} {a : Nat} (h1 : gone.getD a false = false) (h2 : p ∈ E.getD a []) : ∀ {i : Nat}, a < i → 1 ≤ cnt E gone i p
  | 0, h => by omega
  | i + 1, h => by
    simp only [cnt]
    by_cases hi : a = i
    · subst hi
      rw [h1]
      have := List.count_pos_iff.2 h2
      simp only [Bool.false_eq_true, if_false]
      omega
    · have := cnt_ge1 h1 h2 (i := i) (by omega)
      omega
theorem cnt_ge2 {E : List (List Int)} {gone : List Bool} {p : Int} {a b : Nat} (hab : a < b) (h1 : gone.getD a false = false) (h2 : p ∈ E.getD a []) (h3 : gone.getD b false = false) (h4 : p ∈ E.getD b []) : ∀ {i : Nat}, b < i → 2 ≤ cnt E gone i p
  | 0, h => by omega
  | i + 1, h => by
    simp only [cnt]
    by_cases hi : b = i
    · subst hi
      rw [h3]
      have := List.count_pos_iff.2 h4
      have := cnt_ge1 h1 h2 (i := b) hab
      simp only [Bool.false_eq_true, if_false]
      omega
    · have := cnt_ge2 hab h1 h2 h3 h4 (i := i) (by omega)
      omega
theorem sumM_bit {f : Nat → Nat} {M j e : Nat} : ∀ {w : Nat}, (∀ i, i < w → i ≠ e → (M.testBit i && (f i).testBit j) = false) → (sumM f M w).testBit j = (decide (e < w) && (M.testBit e && (f e).testBit j))
  | 0, _ => by simp [sumM]
  | w + 1, h => by
    rw [sumM, Nat.testBit_xor, sumM_bit fun i hi hn => h i (by omega) hn]
    have h2 : (if M.testBit w then f w else 0).testBit j = (M.testBit w && (f w).testBit j) := by
      cases M.testBit w <;> simp
    rw [h2]
    by_cases he : e = w
    · subst he
      simp
    · rw [h w (by omega) (Ne.symm he), Bool.xor_false]
      have : decide (e < w) = decide (e < w + 1) := by
        by_cases h5 : e < w
        · simp [h5, show e < w + 1 by omega]
        · simp [h5, show ¬ e < w + 1 by omega]
      rw [this]
theorem peel_sound {n M : Nat} {E : List (List Int)} {f : Nat → Nat} (hE : ∀ e ∈ E, ∀ p ∈ e, (0 : Int) ≤ p) (hEl : E.length ≤ 64) (hf : ∀ i, i < E.length → ∀ j, j < n → (f i).testBit j = decide ((j : Int) ∈ E.getD i [])) (hz : ∀ j, j < n → (sumM f M 64).testBit j = false) :
    ∀ (k : Nat) (gone : List Bool) (st : List (Nat × Nat)), gone.length = E.length → (∀ i, M.testBit i = true → i < E.length ∧ gone.getD i false = false) → (∀ i, i < E.length → (peelF n E k gone st).2.getD i false = true) → ∀ i, M.testBit i = false
  | 0, gone, st, hgl, hM, hfin, i => by
    cases hb : M.testBit i with
    | false => rfl
    | true =>
      obtain ⟨h1, h2⟩ := hM i hb
      have h3 := hfin i h1
      simp only [peelF] at h3
      rw [h2] at h3
      cases h3
  | k + 1, gone, st, hgl, hM, hfin, i => by
    cases hs : sing n E gone with
    | nil =>
      rw [peelF_end hs] at hfin
      cases hb : M.testBit i with
      | false => rfl
      | true =>
        obtain ⟨h1, h2⟩ := hM i hb
        have h3 := hfin i h1
        simp only at h3
        rw [h2] at h3
        cases h3
    | cons p ps =>
      rw [peelF_next hs] at hfin
      have hp := sing_mem (n := n) (E := E) (gone := gone) (p := p) (by rw [hs]; simp)
      obtain ⟨s1, s2, s3, s4⟩ := edgeOf_spec (E := E) (gone := gone) (p := (p : Int)) (by omega)
      generalize edgeOf E gone (p : Int) = e at *
      have hother : ∀ i, i < 64 → i ≠ e → (M.testBit i && (f i).testBit p) = false := fun i _ hie => by
        cases hb : M.testBit i with
        | false => rfl
        | true =>
          obtain ⟨h1, h2⟩ := hM i hb
          rw [Bool.true_and, hf i h1 p hp.1]
          cases hd : decide ((p : Int) ∈ E.getD i []) with
          | false => rfl
          | true =>
            have hd := of_decide_eq_true hd
            rcases Nat.lt_or_ge i e with h5 | h5
            · have := cnt_ge2 h5 h2 hd s2 s3 s1
              omega
            · have := cnt_ge2 (show e < i by omega) s2 s3 h2 hd h1
              omega
      have hme : M.testBit e = false := by
        have h1 := hz p hp.1
        rw [sumM_bit hother, hf e s1 p hp.1, decide_eq_true s3, decide_eq_true (by omega : e < 64), Bool.true_and, Bool.and_true] at h1
        exact h1
      refine peel_sound hE hEl hf hz k (gone.set e true) _ (by simp [hgl]) (fun i hi => ?_) hfin i
      obtain ⟨h1, h2⟩ := hM i hi
      refine ⟨h1, ?_⟩
      have hne : e ≠ i := fun h5 => by
        rw [h5, hi] at hme
        cases hme
      rw [List.getD_eq_getElem?_getD, List.getElem?_set_ne hne, ← List.getD_eq_getElem?_getD]
      exact h2
theorem leftTo_none {gone : List Bool} {m : Nat} (h : (leftTo gone m).length = 0) {i : Nat} (hi : i < m) : gone.getD i false = true := by
  cases hb : gone.getD i false with
  | true => rfl
  | false =>
    have : i ∈ leftTo gone m := List.mem_filter.2 ⟨List.mem_range.2 hi, by rw [hb]; rfl⟩
    rw [List.eq_nil_of_length_eq_zero h] at this
    cases this
/-- What can be peeled can be solved, whatever the right sides are. -/
theorem peel_solved {n m : Nat} {o : Option (List (List Int))} {R : List Bool} (F : HyF n o) (hm : (((n : Int) + 15) / 16) = (m : Int)) (hR : R.length = (lIS o).length) (hp : noneLeft n (lIS o) = true) : refN (sysT n m (lIS o) R) = 0 := by
  by_cases h0 : refN (sysT n m (lIS o) R) = 0
  · exact h0
  have hok := okSy_T F.n1 F.n2 hm F.el hR F.eb
  obtain ⟨m', ho⟩ := okE_n hok
  have hrs := ref_sum ho h0
  have hns : nSy (sysT n m (lIS o) R) = n := by
    have h1 := ho.sz
    have h2 : (sysT n m (lIS o) R).size = (n : Int) := rfl
    omega
  obtain ⟨q1, _, _⟩ := (elim_s (sysT n m (lIS o) R)).ref h0
  obtain ⟨_, _, q3⟩ := sp_sum ho q1
  have hrl : (lB (sysT n m (lIS o) R).rows).length = (lIS o).length := by
    show (lB (optB ((lIS o).map (rowT n m)))).length = _
    rw [lB_optB, List.length_map]
  generalize hM : ofN (nSy (sysT n m (lIS o) R)) (refN (sysT n m (lIS o) R)) = M at *
  unfold refSum at hrs
  rw [Bool.and_eq_true, sumB_set, sumR_set] at hrs
  obtain ⟨r1, r2⟩ := hrs
  have hrow : ∀ i, i < (lIS o).length → rowB (sysT n m (lIS o) R) i = edgeN ((lIS o).getD i []) := fun i hi => by
    have h1 : (lB (sysT n m (lIS o) R).rows).getD i default = rowT n m ((lIS o).getD i []) := by
      show (lB (optB ((lIS o).map (rowT n m)))).getD i default = _
      rw [lB_optB]
      simp [hi]
    unfold rowB
    rw [h1]
    show numW (wordsN (edgeN ((lIS o).getD i [])) m) = _
    exact numW_wordsN (Nat.lt_of_lt_of_le (edgeN_lt (n := n) fun p hp => F.eb _ (getD_mem hi) p hp) (Nat.pow_le_pow_right (by decide) (by omega)))
  have hz : ∀ j, j < n → (sumM (rowB (sysT n m (lIS o) R)) M 64).testBit j = false := fun j hj => by
    have h2 : (sysT n m (lIS o) R).size.toNat = n := by
      show ((n : Int)).toNat = n
      omega
    rw [h2] at r2
    have := List.all_eq_true.1 r2 j (List.mem_range.2 hj)
    simpa using this
  have hall := peel_sound (M := M) (fun e he p hp => (F.eb e he p hp).1) (by have := F.el; omega) (fun i hi j hj => by rw [hrow i hi, edgeN_bit fun p hp => (F.eb _ (getD_mem hi) p hp).1]) hz (lIS o).length (List.replicate (lIS o).length false) [] (by simp) (fun i hi => by
    have h5 : i < (lIS o).length := by
      rcases Nat.lt_or_ge i (lIS o).length with h | h
      · exact h
      · rw [q3 i (by omega)] at hi
        cases hi
    exact ⟨h5, by simp [h5]⟩) (fun i hi => leftTo_none (m := (lIS o).length) (of_decide_eq_true hp) hi)
  have hq : ∀ w, sumQ (fun i => (lO (sysT n m (lIS o) R).right).getD i false) M w = false := fun w => by
    induction w with
    | zero => rfl
    | succ w ih => rw [sumQ, ih, hall w]; rfl
  rw [hq] at r1
  cases r1

theorem okKeys_at2 {l : List Str} (h : okKeys l = true) {k : Nat} (hk : k < l.length) : okKey (l.getD k []) = true := by
  have key : ∀ n, okKeysFrom l n = true → ∀ i, i < n → okKey (l.getD i []) = true := by
    intro n
    induction n with
    | zero => intro _ i hi; omega
    | succ n ih =>
      intro hn i hi
      simp only [okKeysFrom, Bool.and_eq_true] at hn
      by_cases hin : i = n
      · subst hin
        exact hn.2.1
      · exact ih hn.1 i (by omega)
  rw [okKeys, Bool.and_eq_true] at h
  exact key _ h.1 k hk
theorem retV_yes2 {a b w : Int} {l : Option (List Int)} {key : Str} (h1 : tblOk a b w l = true) (h : okKey key = true) : retV a b w l key = .tup [.int .i64 (valT a b (lI l) key : Nat), .bool true] := by
  unfold retV
  rw [h, h1]
  rfl
theorem task_keys {seed seg width : Int} {keys : Option (List Str)} {vals : Option (List Int)} (h : taskOk seed seg width keys vals = true) : okKeys (lS keys) = true := by
  simp only [taskOk, Bool.and_eq_true] at h
  exact h.1.2.1
theorem task_tbl {seed seg width : Int} {keys : Option (List Str)} {vals : Option (List Int)} (h : taskOk seed seg width keys vals = true) : tblOk seed seg width (some (cellsL (bitsT (tabSy seed seg keys vals)) (nT seg) width.toNat 0)) = true := by
  have F := task_facts h
  have hl : (((cellsL (bitsT (tabSy seed seg keys vals)) (nT seg) width.toNat 0).length : Nat) : Int) = 3 * seg := by
    rw [cellsL_len]
    exact F.nn.symm
  have hall : ((cellsL (bitsT (tabSy seed seg keys vals)) (nT seg) width.toNat 0).all fun m => decide (0 ≤ m) && decide (m ≤ ((2 ^ width.toNat : Nat) : Int) - 1)) = true := by
    rw [List.all_eq_true]
    intro v hv
    obtain ⟨p, hp, rfl⟩ := List.mem_map.1 (show v ∈ (List.range (nT seg)).map fun p => ((mkN (if p < 0 then width.toNat + 1 else width.toNat) (bitsT (tabSy seed seg keys vals) p) : Nat) : Int) from hv)
    have := mkN_lt (g := bitsT (tabSy seed seg keys vals) p) (n := width.toNat)
    simp only [Nat.not_lt_zero, if_false, Bool.and_eq_true, decide_eq_true_eq]
    omega
  have hlI : ∀ C : List Int, lI (some C) = C := fun _ => rfl
  unfold tblOk
  rw [hlI, hall]
  simp [F.s0, F.s1, F.g0, F.g1, F.w0, F.w1, hl]
theorem task_cases (seed seg width : Int) (keys : Option (List Str)) (vals : Option (List Int)) :
    (tabSolV seed seg width keys vals = .tup [eTab 0 0 0 none, .bool false] ∧ tabRefV seed seg width keys vals = .tup [.int .i64 0, .nils, .bool false]) ∨
    (∃ C : List Int, taskOk seed seg width keys vals = true ∧ tabSolV seed seg width keys vals = .tup [eTab seed seg width (some C), .bool true] ∧ tabRefV seed seg width keys vals = .tup [.int .i64 0, .nils, .bool false] ∧ tblOk seed seg width (some C) = true ∧
      ∀ k, k < (lS keys).length → ((valT seed seg C ((lS keys).getD k []) : Nat) : Int) = (lI vals).getD k 0) ∨
    (∃ b : Nat, taskOk seed seg width keys vals = true ∧ b < 8 ∧ tabSolV seed seg width keys vals = .tup [eTab 0 0 0 none, .bool false] ∧ tabRefV seed seg width keys vals = .tup [.int .i64 b, eI (refO (tabSy seed seg keys vals b)), .bool true] ∧ refN (tabSy seed seg keys vals b) ≠ 0) := by
  cases ht : taskOk seed seg width keys vals
  · left
    unfold tabSolV tabRefV
    rw [ht]
    exact ⟨rfl, rfl⟩
  right
  have F := task_facts ht
  have hS : tabSolV seed seg width keys vals = tabSolO seed seg width (nT seg) width.toNat (tabSy seed seg keys vals) := by
    unfold tabSolV
    rw [ht]
    rfl
  have hR : tabRefV seed seg width keys vals = tabRefO width.toNat (tabSy seed seg keys vals) 0 := by
    unfold tabRefV
    rw [ht]
    rfl
  cases ha : allOk (tabSy seed seg keys vals) width.toNat
  · right
    have hnot : ¬ ∀ j, j < width.toNat → refN (tabSy seed seg keys vals j) = 0 := fun h => by
      rw [allOk_yes h] at ha
      cases ha
    have hex : ∃ i, i < width.toNat ∧ (∀ j, j < i → refN (tabSy seed seg keys vals j) = 0) ∧ refN (tabSy seed seg keys vals i) ≠ 0 := by
      have key : ∀ w, (∀ j, j < w → refN (tabSy seed seg keys vals j) = 0) ∨ ∃ i, i < w ∧ (∀ j, j < i → refN (tabSy seed seg keys vals j) = 0) ∧ refN (tabSy seed seg keys vals i) ≠ 0 := by
        intro w
        induction w with
        | zero => exact .inl fun j hj => by omega
        | succ w ih =>
          rcases ih with h | ⟨i, h1, h2, h3⟩
          · by_cases h0 : refN (tabSy seed seg keys vals w) = 0
            · refine .inl fun j hj => ?_
              by_cases hjw : j = w
              · rw [hjw]; exact h0
              · exact h j (by omega)
            · exact .inr ⟨w, by omega, h, h0⟩
          · exact .inr ⟨i, by omega, h2, h3⟩
      rcases key width.toNat with h | h
      · exact absurd h hnot
      · exact h
    obtain ⟨i, h1, h2, h3⟩ := hex
    refine ⟨i, rfl, by have := F.w1; omega, ?_, ?_, h3⟩
    · rw [hS]
      unfold tabSolO
      rw [ha]
      rfl
    · rw [hR, tabRef_some h1 h2 h3]
  · left
    have hz : ∀ j, j < width.toNat → refN (tabSy seed seg keys vals j) = 0 := fun j hj => by
      have := List.all_eq_true.1 ha j (List.mem_range.2 hj)
      simpa using this
    refine ⟨_, rfl, ?_, ?_, task_tbl ht, fun k hk => tab_val ht ha hk⟩
    · rw [hS]
      unfold tabSolO
      rw [ha]
      rfl
    · rw [hR, tabRef_none hz]
theorem ref_peel {seed seg width : Int} {keys : Option (List Str)} {vals : Option (List Int)} {b : Nat} (ht : taskOk seed seg width keys vals = true) (h0 : refN (tabSy seed seg keys vals b) ≠ 0) :
    noneLeft (nT seg) (edges seed (lS keys) seg) = false ∧ 0 < (lS keys).length ∧ refV (tabSy seed seg keys vals b) (lI (refO (tabSy seed seg keys vals b))) = .tup [.bool true, .bool true] := by
  have F := task_facts ht
  obtain ⟨m, ho⟩ := okE_n (F.ok b)
  have hy := hyOk_edges (seed := seed) (ks := lS keys) F.g0 F.g1 F.kl
  rw [F.nn] at hy
  obtain ⟨n', hn', HF⟩ := hy_facts hy
  obtain rfl : n' = nT seg := by omega
  have hp := peel_solved (R := bitR (lI vals) b) HF F.mm (by rw [lIS_optE, edges_len, bitR_len]; exact F.vl)
  rw [lIS_optE] at hp
  have hp2 : noneLeft (nT seg) (edges seed (lS keys) seg) = true → False := fun h => h0 (hp h)
  have hne : noneLeft (nT seg) (edges seed (lS keys) seg) = false := by
    cases h : noneLeft (nT seg) (edges seed (lS keys) seg) with
    | false => rfl
    | true => exact (hp2 h).elim
  refine ⟨hne, ?_, (ref_self ho (F.ok b) h0).1⟩
  rcases Nat.eq_zero_or_pos (lS keys).length with h5 | h5
  · have h6 : edges seed (lS keys) seg = [] := by
      rw [List.eq_nil_of_length_eq_zero h5]
      rfl
    rw [h6] at hne
    have h7 : noneLeft (nT seg) [] = true := rfl
    rw [h7] at hne
    cases hne
  · exact h5

theorem fit_bytes5 {zs : List AV} (h : Fit (.sl (.int .u8) 1) zs) : ∃ a : Option (List UInt8), zs = [eU a] := by
  have key : ∀ xs, Fit (.int .u8) xs → ∃ c : UInt8, xs = [AV.int .u8 (c.toNat : Int)] := fun xs hx => by
    cases hx with
    | @int _ n h1 h2 =>
      have h1' : 0 ≤ n := by simpa [IntKind.min, IntKind.signed, IntKind.bits] using h1
      have h2' : n ≤ 255 := by simpa [IntKind.max, IntKind.signed, IntKind.bits] using h2
      refine ⟨UInt8.ofNat n.toNat, ?_⟩
      have : ((UInt8.ofNat n.toNat).toNat : Int) = n := by
        simp
        omega
      rw [this]
  rcases fit_rows (f := fun c : UInt8 => [AV.int .u8 (c.toNat : Int)]) key h with rfl | ⟨l, rfl⟩
  · exact ⟨none, rfl⟩
  · exact ⟨some l, by rw [flatMap_one]; rfl⟩
def sh_FnTablesBySolving : List Sh := [.sl (.int .u8) 1, .sl (.int .u8) 1]
set_option maxHeartbeats 2000000 in
theorem law_FnTablesBySolving (ys : List AV) (hy : ArgsFit sh_FnTablesBySolving ys) : Call Tryz.prog 6 ys [] Nowhere (fun x _ => x = .bool true) := by
  obtain ⟨x1, y1, rfl, h1, hy⟩ := argsFit_cons hy
  obtain ⟨x2, y2, rfl, h2, hy⟩ := argsFit_cons hy
  obtain rfl := argsFit_nil hy
  obtain ⟨code, hce⟩ := fit_bytes5 h1
  obtain ⟨more, hme⟩ := fit_bytes5 h2
  subst hce hme
  refine (?_ : ∀ h, Call Tryz.prog 6 [eU code, eU more] h Nowhere (fun x _ => x = .bool true)) []
  intro h
  refine enter (by kernel_rfl) e6 (by kernel_rfl) rfl fun hok => ?_
  simp only [r6, initEnv_2]
  have hl1 := ok_eU (okV_0 hok)
  have hl2 := ok_eU (okV_1 hok)
  (try (simp (disch := first | omega | (simp <;> omega) | fail) only [push_cast, ↓reduceIte, Nat.reduceEqDiff, Nat.reduceAdd, Nat.reduceMul, Nat.reduceSub, Nat.reduceLT, Int.reduceToNat]))
  refine (c_laws_big code more hl1).call ?_
  cases hb : (decide (1048576 < ((lU code).length : Int)) || decide (1048576 - ((lU code).length : Int) < ((lU more).length : Int)))
  case true =>
    (try (simp (disch := first | omega | (simp <;> omega) | fail) only [push_cast, ↓reduceIte, Nat.reduceEqDiff, Nat.reduceAdd, Nat.reduceMul, Nat.reduceSub, Nat.reduceLT, Int.reduceToNat]))
  (try (simp (disch := first | omega | (simp <;> omega) | fail) only [push_cast, ↓reduceIte, Nat.reduceEqDiff, Nat.reduceAdd, Nat.reduceMul, Nat.reduceSub, Nat.reduceLT, Int.reduceToNat]))
  refine (c_spec_DrawTableRefusal code).use ?_
  rintro x ⟨seed, ks, vs, seg, w, rfl, hkl, hvl⟩
  have k1 := (c_impl_TableBySolving_o seed seg w ks vs).fn
  have k2 := c_spec_TableBySolving seed seg w ks vs
  have k3 := (c_impl_TableRefusal_o seed seg w ks vs).fn
  have k4 := c_spec_TableRefusal seed seg w ks vs
  rcases task_cases seed seg w ks vs with ⟨e1, e2⟩ | ⟨C, ht, e1, e2, htb, hval⟩ | ⟨b, ht, hb8, e1, e2, h0⟩
  · rw [e1] at k1 k2
    rw [e2] at k3 k4
    unfold eTab at k1 k2
    (try (simp (disch := first | omega | (simp <;> omega) | fail) only [push_cast, ↓reduceIte, Nat.reduceEqDiff, Nat.reduceAdd, Nat.reduceMul, Nat.reduceSub, Nat.reduceLT, Int.reduceToNat]))
    refine k1.call ?_
    (try (simp (disch := first | omega | (simp <;> omega) | fail) only [push_cast, ↓reduceIte, Nat.reduceEqDiff, Nat.reduceAdd, Nat.reduceMul, Nat.reduceSub, Nat.reduceLT, Int.reduceToNat]))
    refine k2.call ?_
    (try (simp (disch := first | omega | (simp <;> omega) | fail) only [push_cast, ↓reduceIte, Nat.reduceEqDiff, Nat.reduceAdd, Nat.reduceMul, Nat.reduceSub, Nat.reduceLT, Int.reduceToNat]))
    refine k3.call ?_
    (try (simp (disch := first | omega | (simp <;> omega) | fail) only [push_cast, ↓reduceIte, Nat.reduceEqDiff, Nat.reduceAdd, Nat.reduceMul, Nat.reduceSub, Nat.reduceLT, Int.reduceToNat]))
    refine k4.call ?_
    (try (simp (disch := first | omega | (simp <;> omega) | fail) only [push_cast, ↓reduceIte, Nat.reduceEqDiff, Nat.reduceAdd, Nat.reduceMul, Nat.reduceSub, Nat.reduceLT, Int.reduceToNat]))
    refine (c_laws_rSameTable 0 0 0 none).call ?_
    (try (simp (disch := first | omega | (simp <;> omega) | fail) only [push_cast, ↓reduceIte, Nat.reduceEqDiff, Nat.reduceAdd, Nat.reduceMul, Nat.reduceSub, Nat.reduceLT, Int.reduceToNat]))
    refine (c_laws_pSameInts none none).call ?_
    (try (simp (disch := first | omega | (simp <;> omega) | fail) only [push_cast, ↓reduceIte, Nat.reduceEqDiff, Nat.reduceAdd, Nat.reduceMul, Nat.reduceSub, Nat.reduceLT, Int.reduceToNat]))
  · rw [e1] at k1 k2
    rw [e2] at k3 k4
    unfold eTab at k1 k2
    (try (simp (disch := first | omega | (simp <;> omega) | fail) only [push_cast, ↓reduceIte, Nat.reduceEqDiff, Nat.reduceAdd, Nat.reduceMul, Nat.reduceSub, Nat.reduceLT, Int.reduceToNat]))
    refine k1.call ?_
    (try (simp (disch := first | omega | (simp <;> omega) | fail) only [push_cast, ↓reduceIte, Nat.reduceEqDiff, Nat.reduceAdd, Nat.reduceMul, Nat.reduceSub, Nat.reduceLT, Int.reduceToNat]))
    refine k2.call ?_
    (try (simp (disch := first | omega | (simp <;> omega) | fail) only [push_cast, ↓reduceIte, Nat.reduceEqDiff, Nat.reduceAdd, Nat.reduceMul, Nat.reduceSub, Nat.reduceLT, Int.reduceToNat]))
    refine k3.call ?_
    (try (simp (disch := first | omega | (simp <;> omega) | fail) only [push_cast, ↓reduceIte, Nat.reduceEqDiff, Nat.reduceAdd, Nat.reduceMul, Nat.reduceSub, Nat.reduceLT, Int.reduceToNat]))
    refine k4.call ?_
    (try (simp (disch := first | omega | (simp <;> omega) | fail) only [push_cast, ↓reduceIte, Nat.reduceEqDiff, Nat.reduceAdd, Nat.reduceMul, Nat.reduceSub, Nat.reduceLT, Int.reduceToNat]))
    refine (c_laws_rSameTable seed seg w (some C)).call ?_
    (try (simp (disch := first | omega | (simp <;> omega) | fail) only [push_cast, ↓reduceIte, Nat.reduceEqDiff, Nat.reduceAdd, Nat.reduceMul, Nat.reduceSub, Nat.reduceLT, Int.reduceToNat]))
    refine (c_laws_pSameInts none none).call ?_
    (try (simp (disch := first | omega | (simp <;> omega) | fail) only [push_cast, ↓reduceIte, Nat.reduceEqDiff, Nat.reduceAdd, Nat.reduceMul, Nat.reduceSub, Nat.reduceLT, Int.reduceToNat]))
    have F := task_facts ht
    have hkk := task_keys ht
    refine T_for (lS ks).length (fun i e h' => Pins e [(7, eI vs), (10, .adr h.length 0), (16, .bool false), (116, eS ks), (117, .int .i64 (lS ks).length), (118, .int .i64 i)] ∧ h'.cells h.length = some [.int .i64 seed, .int .i64 seg, .int .i64 w, eI (some C)]) ?_ ?_
    · (try (simp (disch := first | omega | (simp <;> omega) | fail) only [push_cast, ↓reduceIte, Nat.reduceEqDiff, Nat.reduceAdd, Nat.reduceMul, Nat.reduceSub, Nat.reduceLT, Int.reduceToNat]))
      all_goals (try exact (by rw [cells_h0]; rfl))
    rintro i e h' hi ⟨hp, hc10⟩
    refine T_pins hp fun e => ?_
    (try (simp (disch := first | omega | (simp <;> omega) | fail) only [push_cast, ↓reduceIte, Nat.reduceEqDiff, Nat.reduceAdd, Nat.reduceMul, Nat.reduceSub, Nat.reduceLT, Int.reduceToNat]))
    first | refine goC_split (fun hc => ?_) (fun hc => ?_) | refine cnd_split (fun hc => ?_) (fun hc => ?_)
    · (try (simp only [decide_eq_true_eq, decide_eq_false_iff_not, Bool.not_eq_true', Bool.not_eq_false', Bool.and_eq_true, Bool.or_eq_true, Int.not_lt, Int.not_le] at hc)); (try (simp (disch := first | omega | (simp <;> omega) | fail) only [push_cast, ↓reduceIte, Nat.reduceEqDiff, Nat.reduceAdd, Nat.reduceMul, Nat.reduceSub, Nat.reduceLT, Int.reduceToNat]))
      have hi2 : i < (lS ks).length := by omega
      have hkey := okKeys_at2 hkk hi2
      have hvk := hval i hi2
      have hget : ((lS ks).map AV.str)[i]? = some (.str ((lS ks).getD i [])) := by simp [hi2]
      have hiv : i < (lI vs).length := by have := F.vl; omega
      (try (simp (disch := first | omega | (simp <;> omega) | fail) only [push_cast, ↓reduceIte, Nat.reduceEqDiff, Nat.reduceAdd, Nat.reduceMul, Nat.reduceSub, Nat.reduceLT, Int.reduceToNat, hget, hc10]))
      refine (c_impl_RetrieveValue seed seg w (some C) ((lS ks).getD i [])).call ?_
      rw [retV_yes2 htb hkey]
      have hlC : lI (some C) = C := rfl
      rw [hlC, hvk]
      (try (simp (disch := first | omega | (simp <;> omega) | fail) only [push_cast, ↓reduceIte, Nat.reduceEqDiff, Nat.reduceAdd, Nat.reduceMul, Nat.reduceSub, Nat.reduceLT, Int.reduceToNat]))
      all_goals (try exact hc10)
    · (try (simp only [decide_eq_true_eq, decide_eq_false_iff_not, Bool.not_eq_true', Bool.not_eq_false', Bool.and_eq_true, Bool.or_eq_true, Int.not_lt, Int.not_le] at hc)); (try (simp (disch := first | omega | (simp <;> omega) | fail) only [push_cast, ↓reduceIte, Nat.reduceEqDiff, Nat.reduceAdd, Nat.reduceMul, Nat.reduceSub, Nat.reduceLT, Int.reduceToNat]))
      (try (simp (disch := first | omega | (simp <;> omega) | fail) only [push_cast, ↓reduceIte, Nat.reduceEqDiff, Nat.reduceAdd, Nat.reduceMul, Nat.reduceSub, Nat.reduceLT, Int.reduceToNat]))
  · rw [e1] at k1 k2
    rw [e2] at k3 k4
    unfold eTab at k1 k2
    have F := task_facts ht
    have hkk := task_keys ht
    obtain ⟨hpl, hpos, hrf⟩ := ref_peel ht h0
    have kh := c_impl_HyperOf seed seg ks F.s0 F.s1 hkk F.g0 F.g1
    have hy := hyOk_edges (seed := seed) (ks := lS ks) F.g0 F.g1 F.kl
    rw [F.nn] at kh hy
    have ks2 := c_impl_SystemOf (nT seg) (mT seg) (optE (edges seed (lS ks) seg)) (bitR (lI vs) b) F.mm hy (by rw [lIS_optE, edges_len, bitR_len]; exact F.vl)
    have kp := c_impl_PeelOrder (nT seg) (optE (edges seed (lS ks) seg)) hy
    rw [lIS_optE] at ks2 kp
    rw [hpl] at kp
    have ks3 : Fn Tryz.prog 40 [eHy (nT seg) (optE (edges seed (lS ks) seg)), eO (some (bitR (lI vs) b))] (· = .tup [eSy (tabSy seed seg ks vs b), .bool true]) := ks2
    have ki := c_impl_IsRefusal (tabSy seed seg ks vs b) (refO (tabSy seed seg ks vs b))
    rw [hrf] at ki
    clear ks2 hpl hrf h0 e1 e2
    generalize refO (tabSy seed seg ks vs b) = rows at *
    generalize tabSy seed seg ks vs b = sy at *
    generalize optE (edges seed (lS ks) seg) = oE at *
    unfold eHy at kh ks3 kp
    unfold eSy at ks3 ki
    (try (simp (disch := first | omega | (simp <;> omega) | fail) only [push_cast, ↓reduceIte, Nat.reduceEqDiff, Nat.reduceAdd, Nat.reduceMul, Nat.reduceSub, Nat.reduceLT, Int.reduceToNat]))
    refine k1.call ?_
    (try (simp (disch := first | omega | (simp <;> omega) | fail) only [push_cast, ↓reduceIte, Nat.reduceEqDiff, Nat.reduceAdd, Nat.reduceMul, Nat.reduceSub, Nat.reduceLT, Int.reduceToNat]))
    refine k2.call ?_
    (try (simp (disch := first | omega | (simp <;> omega) | fail) only [push_cast, ↓reduceIte, Nat.reduceEqDiff, Nat.reduceAdd, Nat.reduceMul, Nat.reduceSub, Nat.reduceLT, Int.reduceToNat]))
    refine k3.call ?_
    (try (simp (disch := first | omega | (simp <;> omega) | fail) only [push_cast, ↓reduceIte, Nat.reduceEqDiff, Nat.reduceAdd, Nat.reduceMul, Nat.reduceSub, Nat.reduceLT, Int.reduceToNat]))
    refine k4.call ?_
    (try (simp (disch := first | omega | (simp <;> omega) | fail) only [push_cast, ↓reduceIte, Nat.reduceEqDiff, Nat.reduceAdd, Nat.reduceMul, Nat.reduceSub, Nat.reduceLT, Int.reduceToNat]))
    refine (c_laws_rSameTable 0 0 0 none).call ?_
    (try (simp (disch := first | omega | (simp <;> omega) | fail) only [push_cast, ↓reduceIte, Nat.reduceEqDiff, Nat.reduceAdd, Nat.reduceMul, Nat.reduceSub, Nat.reduceLT, Int.reduceToNat]))
    refine (c_laws_pSameInts rows rows).call ?_
    rw [decide_eq_true (rfl : lI rows = lI rows)]
    (try (simp (disch := first | omega | (simp <;> omega) | fail) only [push_cast, ↓reduceIte, Nat.reduceEqDiff, Nat.reduceAdd, Nat.reduceMul, Nat.reduceSub, Nat.reduceLT, Int.reduceToNat]))
    refine kh.call ?_
    (try (simp (disch := first | omega | (simp <;> omega) | fail) only [push_cast, ↓reduceIte, Nat.reduceEqDiff, Nat.reduceAdd, Nat.reduceMul, Nat.reduceSub, Nat.reduceLT, Int.reduceToNat]))
    refine T_for (lI vs).length (fun i e h' => ∃ v B, Pins e [(14, .int .i64 b), (15, eI rows), (24, .adr (h.length + 2) 0), (25, .bool true), (26, v), (148, eI vs), (149, .int .i64 (lI vs).length), (150, .int .i64 i)] ∧ h'.cells (h.length + 2) = some [.int .i64 (nT seg), eIS oE] ∧ S1 h' 1 v i (((bitR (lI vs) b).take i).map .bool) B ∧ (∀ k ∈ B, h.length + 3 ≤ k)) ?_ ?_
    · (try (simp (disch := first | omega | (simp <;> omega) | fail) only [push_cast, ↓reduceIte, Nat.reduceEqDiff, Nat.reduceAdd, Nat.reduceMul, Nat.reduceSub, Nat.reduceLT, Int.reduceToNat]))
      all_goals (try exact ⟨_, [], rfl, by simpa using S1.nil, by simp⟩)
    rintro i e h' hi ⟨v, B, hp, q1, q3, q4⟩
    refine T_pins hp fun e => ?_
    have hl1 := cells_lt q1
    (try (simp (disch := first | omega | (simp <;> omega) | fail) only [push_cast, ↓reduceIte, Nat.reduceEqDiff, Nat.reduceAdd, Nat.reduceMul, Nat.reduceSub, Nat.reduceLT, Int.reduceToNat]))
    first | refine goC_split (fun hc => ?_) (fun hc => ?_) | refine cnd_split (fun hc => ?_) (fun hc => ?_)
    · (try (simp only [decide_eq_true_eq, decide_eq_false_iff_not, Bool.not_eq_true', Bool.not_eq_false', Bool.and_eq_true, Bool.or_eq_true, Int.not_lt, Int.not_le] at hc)); (try (simp (disch := first | omega | (simp <;> omega) | fail) only [push_cast, ↓reduceIte, Nat.reduceEqDiff, Nat.reduceAdd, Nat.reduceMul, Nat.reduceSub, Nat.reduceLT, Int.reduceToNat]))
      have hi2 : i < (lI vs).length := by omega
      have htk := bitR_take (bit := b) hi2
      have hvi := F.vb ((lI vs).getD i 0) (by simp [hi2])
      obtain ⟨x, hx⟩ : ∃ x : Nat, (lI vs).getD i 0 = (x : Int) := ⟨((lI vs).getD i 0).toNat, by omega⟩
      rw [hx] at hvi
      rw [hx, Int.toNat_natCast] at htk
      have hat := at_bit (x := x) (j := b) (by omega) (by omega)
      obtain ⟨q, hq⟩ : ∃ q, q = x.testBit b := ⟨_, rfl⟩
      rw [← hq] at hat htk
      clear hq
      cases q
      all_goals
        (try (simp (disch := first | omega | (simp <;> omega) | fail) only [push_cast, ↓reduceIte, Nat.reduceEqDiff, Nat.reduceAdd, Nat.reduceMul, Nat.reduceSub, Nat.reduceLT, Int.reduceToNat, hx, hat]))
        refine (q3.frame (h' := h' ++ _) fun c hc => List.getElem?_append_left (q3.lt c hc)).app0 (new := [.bool _]) (k := 1) (by_ := 1) (fun b hb => Or.inr (by have := q4 b hb; omega)) rfl (by omega) fun v2 h2 B2 a1 a2 a3 a4 a5 => ?_
        simp only [List.length_append, List.length_cons, List.length_nil] at a2 a3 a4
        have a1' : S1 h2 1 v2 (i + 1) (((bitR (lI vs) b).take (i + 1)).map .bool) B2 := by
          rw [htk]
          simpa using a1
        have q1' : h2.cells (h.length + 2) = some [.int .i64 (nT seg), eIS oE] := cells_keep ((a3 _ (by omega) fun hb => by have := q4 _ hb; omega).trans (List.getElem?_append_left (by omega))) q1
        have q4' : ∀ k ∈ B2, h.length + 3 ≤ k := fun k hk => by
          rcases a4 k hk with h5 | h5
          · exact q4 k h5
          · omega
        (try (simp (disch := first | omega | (simp <;> omega) | fail) only [push_cast, ↓reduceIte, Nat.reduceEqDiff, Nat.reduceAdd, Nat.reduceMul, Nat.reduceSub, Nat.reduceLT, Int.reduceToNat]))
        all_goals (try exact ⟨_, B2, rfl, q1', a1', q4'⟩)
    · (try (simp only [decide_eq_true_eq, decide_eq_false_iff_not, Bool.not_eq_true', Bool.not_eq_false', Bool.and_eq_true, Bool.or_eq_true, Int.not_lt, Int.not_le] at hc)); (try (simp (disch := first | omega | (simp <;> omega) | fail) only [push_cast, ↓reduceIte, Nat.reduceEqDiff, Nat.reduceAdd, Nat.reduceMul, Nat.reduceSub, Nat.reduceLT, Int.reduceToNat]))
      have hie : i = (lI vs).length := by omega
      subst hie
      rw [List.take_of_length_le (by rw [bitR_len]; omega)] at q3
      have hvn : v ≠ .nils := by
        rcases q3.2 with ⟨_, h5, _⟩ | ⟨b5, rfl, _⟩
        · have := F.vl
          omega
        · simp
      (try (simp (disch := first | omega | (simp <;> omega) | fail) only [push_cast, ↓reduceIte, Nat.reduceEqDiff, Nat.reduceAdd, Nat.reduceMul, Nat.reduceSub, Nat.reduceLT, Int.reduceToNat, q1]))
      have ho1 := (q3.frame (h' := filt (fun k => decide (h.length + 3 ≤ k)) h') fun b hb => filt_t (by simpa using q4 b hb)).vwB (n0 := 0) (fun _ _ => Nat.zero_le _) hvn
      refine Call.sink (fun k => decide (h.length + 3 ≤ k)) (ts := [.agg [.int .i64 (nT seg), eIS oE], eO (some (bitR (lI vs) b))]) rfl (fun k x t hx ht => ?_) (fun b _ hb => Or.inr (by have := of_decide_eq_true hb; omega)) ?_
      · rcases k with _ | _ | k
        · simp at hx ht
          exact .inl (hx.symm.trans ht)
        · simp at hx ht
          subst hx ht
          exact .inr ho1
        · simp at hx
      have g1 : H.cells (filt (fun b => !decide (h.length + 3 ≤ b)) h') (h.length + 2) = some [.int .i64 (nT seg), eIS oE] := cells_keep (filt_t (by simp)) q1
      generalize filt (fun b => !decide (h.length + 3 ≤ b)) h' = g at *
      have g2 := cells_lt g1
      have g1' : ∀ l, H.cells (g ++ l) (h.length + 2) = some [.int .i64 (nT seg), eIS oE] := fun l => cells_app g1
      refine ks3.call ?_
      (try (simp (disch := first | omega | (simp <;> omega) | fail) only [push_cast, ↓reduceIte, Nat.reduceEqDiff, Nat.reduceAdd, Nat.reduceMul, Nat.reduceSub, Nat.reduceLT, Int.reduceToNat, g1, g1']))
      refine ki.call ?_
      (try (simp (disch := first | omega | (simp <;> omega) | fail) only [push_cast, ↓reduceIte, Nat.reduceEqDiff, Nat.reduceAdd, Nat.reduceMul, Nat.reduceSub, Nat.reduceLT, Int.reduceToNat, g1, g1']))
      refine kp.use ?_
      rintro x ⟨v5, rfl⟩
      (try (simp (disch := first | omega | (simp <;> omega) | fail) only [push_cast, ↓reduceIte, Nat.reduceEqDiff, Nat.reduceAdd, Nat.reduceMul, Nat.reduceSub, Nat.reduceLT, Int.reduceToNat]))

end Go.Proofs.YtjfgmimgmapeeaaGreat.M
