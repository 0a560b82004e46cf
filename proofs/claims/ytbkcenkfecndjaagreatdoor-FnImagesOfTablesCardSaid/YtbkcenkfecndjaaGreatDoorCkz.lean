/-
  What the functions return.
-/
import Derived.Test.YtbkcenkfecndjaaGreatDoorFkz
import Derived.Test.YtbkcenkfecndjaaGreatDoorCky
namespace Go.Proofs.YtbkcenkfecndjaaGreatDoor.M
open Go Go.RowKit
set_option linter.unusedVariables false
set_option linter.unusedSimpArgs false
set_option maxRecDepth 4000

theorem c_laws_pSameInts (a b : Option (List Int)) : Fn Tryz.prog 30 [eI a, eI b] (· = .bool (decide (lI a = lI b))) := by
  refine Fn.of free_bool fun h => ?_
  refine enter (by kernel_rfl) e30 (by kernel_rfl) rfl fun hok => ?_
  simp only [r30, initEnv_2]
  have ha := ok_eI (okV_0 hok)
  have hb := ok_eI (okV_1 hok)
  (try (simp (disch := first | omega | (simp <;> omega) | fail) only [push_cast, ↓reduceIte, Nat.reduceEqDiff, Nat.reduceAdd, Nat.reduceMul, Nat.reduceSub, Nat.reduceLT, Int.reduceToNat]))
  first | refine goC_split (fun hc => ?_) (fun hc => ?_) | refine cnd_split (fun hc => ?_) (fun hc => ?_)
  · (try (simp only [decide_eq_true_eq, decide_eq_false_iff_not, Bool.not_eq_true', Bool.not_eq_false', Bool.and_eq_true, Bool.or_eq_true, Int.not_lt, Int.not_le] at hc)); (try (simp (disch := first | omega | (simp <;> omega) | fail) only [push_cast, ↓reduceIte, Nat.reduceEqDiff, Nat.reduceAdd, Nat.reduceMul, Nat.reduceSub, Nat.reduceLT, Int.reduceToNat]))
    have : lI a ≠ lI b := fun h => hc (by rw [h])
    rw [decide_eq_false this]
  (try (simp only [decide_eq_true_eq, decide_eq_false_iff_not, Bool.not_eq_true', Bool.not_eq_false', Bool.and_eq_true, Bool.or_eq_true, Int.not_lt, Int.not_le] at hc)); (try (simp (disch := first | omega | (simp <;> omega) | fail) only [push_cast, ↓reduceIte, Nat.reduceEqDiff, Nat.reduceAdd, Nat.reduceMul, Nat.reduceSub, Nat.reduceLT, Int.reduceToNat]))
  have hll : (lI a).length = (lI b).length := by omega
  refine T_for (lI a).length (fun i e h' => Pins e [(0, eI a), (1, eI b), (12, .int .i64 (lI a).length), (13, .int .i64 i)] ∧ h' = h ∧ (lI a).take i = (lI b).take i) ?_ ?_
  · (try (simp (disch := first | omega | (simp <;> omega) | fail) only [push_cast, ↓reduceIte, Nat.reduceEqDiff, Nat.reduceAdd, Nat.reduceMul, Nat.reduceSub, Nat.reduceLT, Int.reduceToNat]))
    all_goals (try simp)
  rintro i e h' hi ⟨hp, rfl, ht⟩
  refine T_pins hp fun e => ?_
  (try (simp (disch := first | omega | (simp <;> omega) | fail) only [push_cast, ↓reduceIte, Nat.reduceEqDiff, Nat.reduceAdd, Nat.reduceMul, Nat.reduceSub, Nat.reduceLT, Int.reduceToNat]))
  first | refine goC_split (fun hd => ?_) (fun hd => ?_) | refine cnd_split (fun hd => ?_) (fun hd => ?_)
  · (try (simp only [decide_eq_true_eq, decide_eq_false_iff_not, Bool.not_eq_true', Bool.not_eq_false', Bool.and_eq_true, Bool.or_eq_true, Int.not_lt, Int.not_le] at hd)); (try (simp (disch := first | omega | (simp <;> omega) | fail) only [push_cast, ↓reduceIte, Nat.reduceEqDiff, Nat.reduceAdd, Nat.reduceMul, Nat.reduceSub, Nat.reduceLT, Int.reduceToNat]))
    have hi2 : i < (lI a).length := by omega
    have hi3 : i < (lI b).length := by omega
    have ha1 : (lI a).take (i + 1) = (lI a).take i ++ [(lI a).getD i 0] := by
      rw [List.take_add_one]
      simp [hi2]
    have hb1 : (lI b).take (i + 1) = (lI b).take i ++ [(lI b).getD i 0] := by
      rw [List.take_add_one]
      simp [hi3]
    (try (simp (disch := first | omega | (simp <;> omega) | fail) only [push_cast, ↓reduceIte, Nat.reduceEqDiff, Nat.reduceAdd, Nat.reduceMul, Nat.reduceSub, Nat.reduceLT, Int.reduceToNat]))
    first | refine goC_split (fun he => ?_) (fun he => ?_) | refine cnd_split (fun he => ?_) (fun he => ?_)
    · (try (simp only [decide_eq_true_eq, decide_eq_false_iff_not, Bool.not_eq_true', Bool.not_eq_false', Bool.and_eq_true, Bool.or_eq_true, Int.not_lt, Int.not_le] at he)); (try (simp (disch := first | omega | (simp <;> omega) | fail) only [push_cast, ↓reduceIte, Nat.reduceEqDiff, Nat.reduceAdd, Nat.reduceMul, Nat.reduceSub, Nat.reduceLT, Int.reduceToNat]))
      have : lI a ≠ lI b := fun h => he (by rw [h])
      rw [decide_eq_false this]
    · (try (simp only [decide_eq_true_eq, decide_eq_false_iff_not, Bool.not_eq_true', Bool.not_eq_false', Bool.and_eq_true, Bool.or_eq_true, Int.not_lt, Int.not_le] at he)); (try (simp (disch := first | omega | (simp <;> omega) | fail) only [push_cast, ↓reduceIte, Nat.reduceEqDiff, Nat.reduceAdd, Nat.reduceMul, Nat.reduceSub, Nat.reduceLT, Int.reduceToNat]))
      rw [ha1, hb1, ht, he]
      (try (simp (disch := first | omega | (simp <;> omega) | fail) only [push_cast, ↓reduceIte, Nat.reduceEqDiff, Nat.reduceAdd, Nat.reduceMul, Nat.reduceSub, Nat.reduceLT, Int.reduceToNat]))
  · (try (simp only [decide_eq_true_eq, decide_eq_false_iff_not, Bool.not_eq_true', Bool.not_eq_false', Bool.and_eq_true, Bool.or_eq_true, Int.not_lt, Int.not_le] at hd)); (try (simp (disch := first | omega | (simp <;> omega) | fail) only [push_cast, ↓reduceIte, Nat.reduceEqDiff, Nat.reduceAdd, Nat.reduceMul, Nat.reduceSub, Nat.reduceLT, Int.reduceToNat]))
    have : lI a = lI b := by
      rw [List.take_of_length_le (by omega), List.take_of_length_le (by omega)] at ht
      exact ht
    rw [decide_eq_true this]

theorem c_laws_pSameBits (b c : Bt) : Fn Tryz.prog 29 [eB b, eB c] (· = .bool (decide (b.size = c.size) && decide (lI b.words = lI c.words))) := by
  refine Fn.of free_bool fun h => ?_
  refine enter (by kernel_rfl) e29 (by kernel_rfl) rfl fun hok => ?_
  simp only [r29, initEnv_2]
  (try (simp (disch := first | omega | (simp <;> omega) | fail) only [push_cast, ↓reduceIte, Nat.reduceEqDiff, Nat.reduceAdd, Nat.reduceMul, Nat.reduceSub, Nat.reduceLT, Int.reduceToNat]))
  cases hs : decide (b.size = c.size)
  · (try (simp (disch := first | omega | (simp <;> omega) | fail) only [push_cast, ↓reduceIte, Nat.reduceEqDiff, Nat.reduceAdd, Nat.reduceMul, Nat.reduceSub, Nat.reduceLT, Int.reduceToNat]))
  (try (simp (disch := first | omega | (simp <;> omega) | fail) only [push_cast, ↓reduceIte, Nat.reduceEqDiff, Nat.reduceAdd, Nat.reduceMul, Nat.reduceSub, Nat.reduceLT, Int.reduceToNat]))
  refine (c_laws_pSameInts _ _).call ?_
  (try (simp (disch := first | omega | (simp <;> omega) | fail) only [push_cast, ↓reduceIte, Nat.reduceEqDiff, Nat.reduceAdd, Nat.reduceMul, Nat.reduceSub, Nat.reduceLT, Int.reduceToNat]))

theorem open_sealed {s : Str} (hp : plainV s = true) : openOk (sealT s) (beforeT (sealT s)) = true ∧ beforeT (sealT s) = s := by
  have hb : beforeT (sealT s) = s := by
    unfold sealT
    exact before_app (plain_no126 (plainV_plain hp))
  rw [hb]
  unfold openOk
  simp [hp]
theorem seal_len3 (s : Str) : (sealT s).length ≤ s.length + 21 := by
  have h1 := chk_bd s s.length
  have h2 := dec_len (n := (chk s s.length).toNat) (by omega)
  unfold sealT
  simp only [List.length_append, List.length_cons]
  omega
theorem dec_ne32 {n : Nat} : ∀ x ∈ Lib.decDigits n, x ≠ 32 := fun x hx h5 => by
  have := (dec_plain n x hx).1
  rw [h5] at this
  revert this
  decide
theorem dec_ch {n : Nat} : ∀ x ∈ Lib.decDigits n, okCh x = true := fun x hx => by
  have := dec_plain n x hx
  unfold okCh
  rw [Bool.and_eq_true, decide_eq_true_eq, decide_eq_true_eq]
  omega
theorem plain_of {s : Str} (h : ∀ x ∈ s, okCh x = true) (hl : s.length ≤ 6000) : plainV s = true := by
  unfold plainV plain
  rw [Bool.and_eq_true, decide_eq_true_eq]
  exact ⟨List.all_eq_true.2 h, by omega⟩
theorem sealV_plain {s : Str} (h : plainV s = true) : sealV s = .tup [.str (sealT s), .bool true] := if_pos h
theorem split_nums : ∀ {K : List Str} {p : Str}, (∀ x ∈ p, x ≠ 32) → (∀ s ∈ K, ∀ x ∈ s, x ≠ 32) → splitL 32 (p ++ K.flatMap fun s => 32 :: s) = p :: K
  | [], p, hp, _ => by
    rw [List.flatMap_nil, List.append_nil, splitL_no 32 p hp]
  | s :: K, p, hp, hK => by
    have e : (s :: K).flatMap (fun s => (32 : UInt8) :: s) = 32 :: (s ++ K.flatMap fun s => 32 :: s) := rfl
    rw [e, splitL_app 32 p _ hp, split_nums (hK s (by simp)) fun x hx => hK x (List.mem_cons_of_mem _ hx)]
theorem itoa_one {m : Int} (h0 : 0 ≤ m) (h3 : m ≤ 3) : Lib.itoa m = [UInt8.ofNat (48 + m.toNat)] := by
  rw [itoa_nn h0, dec_rec, if_pos (by omega)]
theorem mkM_marks : ∀ {l : List Int}, (∀ m ∈ l, 0 ≤ m ∧ m ≤ 3) → mkM (l.flatMap Lib.itoa) = l
  | [], _ => rfl
  | m :: l, h => by
    obtain ⟨h0, h3⟩ := h m (by simp)
    have ih := mkM_marks (l := l) fun x hx => h x (List.mem_cons_of_mem _ hx)
    rw [List.flatMap_cons, itoa_one h0 h3]
    unfold mkM at ih ⊢
    rw [List.map_append, ih]
    have : (((UInt8.ofNat (48 + m.toNat)).toNat : Int) - 48) = m := by
      rw [UInt8.toNat_ofNat']
      omega
    simp only [List.map_cons, List.map_nil, List.singleton_append, this]
theorem marks_no32 {l : List Int} (h : ∀ m ∈ l, 0 ≤ m ∧ m ≤ 3) : ∀ x ∈ l.flatMap Lib.itoa, x ≠ 32 ∧ okCh x = true := fun x hx => by
  obtain ⟨m, hm, hx⟩ := List.mem_flatMap.1 hx
  rw [itoa_nn (h m hm).1] at hx
  exact ⟨dec_ne32 x hx, dec_ch x hx⟩
/-- The image of marks: what it loads to. -/
theorem load_pd {p : Pd} (h : okPd p = true) : ∃ Z : Str, Z.length ≤ 100000 ∧ imgPV p = .tup [.str Z, .bool true] ∧ lpV Z = .tup [eP ⟨p.seed, p.seg, some (lI p.marks)⟩, .bool true] ∧ lsV Z = .tup [eSp zSp, .bool false] := by
  obtain ⟨k1, k2, k3, k4, k5, k6⟩ := okPd_in h
  have hm : ∀ m ∈ lI p.marks, 0 ≤ m ∧ m ≤ 3 := fun m hm => by
    obtain ⟨i, hi, rfl⟩ := List.mem_iff_getElem.1 hm
    have := k6 i
    rw [List.getD_eq_getElem?_getD, List.getElem?_eq_getElem hi] at this
    exact this
  obtain ⟨T, hT⟩ : ∃ T, T = pdT p (lI p.marks).length := ⟨_, rfl⟩
  have hTv : T = peW ++ 32 :: (Lib.decDigits p.seed.toNat ++ 32 :: (Lib.decDigits p.seg.toNat ++ 32 :: (lI p.marks).flatMap Lib.itoa)) := by
    rw [hT]
    unfold pdT peW
    rw [List.take_length, itoa_nn k1, itoa_nn (show 0 ≤ p.seg by omega)]
    rfl
  have hl : T.length ≤ 3000 := by
    have := pdT_len (p := p) ⟨⟨by omega, by omega⟩, ⟨by omega, by omega⟩, fun m hm2 => by have := hm m hm2; unfold inR; omega⟩ (lI p.marks).length (Nat.le_refl _)
    rw [hT]
    omega
  have hpl : plainV T = true := plain_of (fun x hx => by
    rw [hTv] at hx
    have h32 : okCh 32 = true := by decide
    have hpe : ∀ x ∈ peW, okCh x = true := by decide
    simp only [List.mem_append, List.mem_cons] at hx
    rcases hx with hx | hx | hx | hx | hx | hx | hx
    · exact hpe x hx
    · rw [hx]; exact h32
    · exact dec_ch x hx
    · rw [hx]; exact h32
    · exact dec_ch x hx
    · rw [hx]; exact h32
    · exact (marks_no32 hm x hx).2) (by omega)
  obtain ⟨ho, hb⟩ := open_sealed hpl
  have hsp : splitL 32 (beforeT (sealT T)) = [peW, Lib.decDigits p.seed.toNat, Lib.decDigits p.seg.toNat, (lI p.marks).flatMap Lib.itoa] := by
    rw [hb, hTv, splitL_app 32 peW _ (by decide), splitL_app 32 _ _ dec_ne32, splitL_app 32 _ _ dec_ne32, splitL_no 32 _ fun x hx => (marks_no32 hm x hx).1]
  have e1 : rdN (Lib.decDigits p.seed.toNat) = p.seed := by rw [rd_dec (by omega)]; omega
  have e2 : rdN (Lib.decDigits p.seg.toNat) = p.seg := by rw [rd_dec (by omega)]; omega
  have hlp : lpP (Lib.decDigits p.seed.toNat) (Lib.decDigits p.seg.toNat) ((lI p.marks).flatMap Lib.itoa) = ⟨p.seed, p.seg, some (lI p.marks)⟩ := by
    unfold lpP
    rw [e1, e2, mkM_marks hm]
  refine ⟨sealT T, ?_, ?_, ?_, ?_⟩
  · have := seal_len3 T
    omega
  · unfold imgPV
    rw [if_pos h, ← hT]
    exact sealV_plain hpl
  · rw [lp_four hsp ho rfl (by rw [hlp]; exact h), hlp]
  · refine ls_none (ls_closed ?_)
    unfold lsW
    refine if_neg fun h5 => ?_
    have := h5.2
    rw [hb, hTv] at this
    revert this
    unfold peW
    simp
/-- The image of sorted numbers: what it loads to. -/
theorem load_sp {s : Spa} (h : okSp s = true) : ∃ Z : Str, Z.length ≤ 100000 ∧ imgSV s = .tup [.str Z, .bool true] ∧ lsV Z = .tup [eSp (spV (spLs s) s.limit.toNat), .bool true] ∧ lpV Z = .tup [eP ⟨0, 0, none⟩, .bool false] := by
  obtain ⟨k1, k2, k3, k4⟩ := okSp_lt h
  have hsrt : srt (natI (spLs s)) s.limit = true := by
    simp only [okSp, midSp, Bool.and_eq_true] at h
    exact h.2.1.2
  obtain ⟨T, hT⟩ : ∃ T, T = spT s.limit (natI (spLs s)) (spLs s).length := ⟨_, rfl⟩
  have hTv : T = spW ++ 32 :: (Lib.decDigits s.limit.toNat ++ ((spLs s).map Lib.decDigits).flatMap fun x => 32 :: x) := by
    rw [hT]
    unfold spT spW
    have hln : (natI (spLs s)).length = (spLs s).length := natI_len
    have e : ((natI (spLs s)).take (spLs s).length).flatMap (fun m => 32 :: Lib.itoa m) = ((spLs s).map Lib.decDigits).flatMap fun x => 32 :: x := by
      rw [← hln, List.take_length]
      unfold natI
      rw [List.flatMap_map, List.flatMap_map]
      refine congrArg (fun f => (spLs s).flatMap f) (funext fun m => ?_)
      rw [itoa_nn (Int.natCast_nonneg m)]
      simp
    rw [e, itoa_nn (show 0 ≤ s.limit by omega)]
    rfl
  have hl : T.length ≤ 2000 := by
    rw [hT]
    exact spT_len (by unfold inR; omega) (natI_in k2) (by rw [natI_len]; exact k1) _
  have hno : ∀ w ∈ (spLs s).map Lib.decDigits, ∀ x ∈ w, x ≠ 32 := fun w hw x hx => by
    obtain ⟨m, _, rfl⟩ := List.mem_map.1 hw
    exact dec_ne32 x hx
  have hpl : plainV T = true := plain_of (fun x hx => by
    rw [hTv] at hx
    have h32 : okCh 32 = true := by decide
    have hpe : ∀ x ∈ spW, okCh x = true := by decide
    simp only [List.mem_append, List.mem_cons, List.mem_flatMap] at hx
    rcases hx with hx | hx | hx | ⟨w, hw, hx⟩
    · exact hpe x hx
    · rw [hx]; exact h32
    · exact dec_ch x hx
    · rcases hx with hx | hx
      · rw [hx]; exact h32
      · obtain ⟨m, _, rfl⟩ := List.mem_map.1 hw
        exact dec_ch x hx) (by omega)
  obtain ⟨ho, hb⟩ := open_sealed hpl
  have hdr : T.drop 7 = Lib.decDigits s.limit.toNat ++ ((spLs s).map Lib.decDigits).flatMap fun x => 32 :: x := by rw [hTv]; rfl
  have htk : T.take 7 = [115, 112, 97, 114, 115, 101, 32] := by rw [hTv]; rfl
  have hW : lsW (sealT T) = some (Lib.decDigits s.limit.toNat :: (spLs s).map Lib.decDigits) := by
    unfold lsW
    rw [if_pos ⟨ho, by rw [hb]; exact htk⟩, hb, hdr, split_nums dec_ne32 hno]
  have hnum : (Lib.decDigits s.limit.toNat :: (spLs s).map Lib.decDigits).map rdN = s.limit :: natI (spLs s) := by
    rw [List.map_cons, rd_dec (by omega), List.map_map]
    have e1 : ((s.limit.toNat : Nat) : Int) = s.limit := by omega
    rw [e1]
    unfold natI
    refine congrArg _ (List.map_congr_left fun m hm => ?_)
    exact rd_dec (k2 m hm)
  have hnat : (natI (spLs s)).map Int.toNat = spLs s := by
    unfold natI
    rw [List.map_map]
    refine (List.map_congr_left fun x _ => ?_).trans (List.map_id _)
    simp
  refine ⟨sealT T, ?_, ?_, ?_, ?_⟩
  · have := seal_len3 T
    omega
  · unfold imgSV
    rw [if_pos h, ← hT]
    exact sealV_plain hpl
  · refine ls_some ?_
    unfold lsP
    rw [hW]
    simp only
    rw [hnum]
    unfold lsN
    simp only
    rw [if_pos hsrt, hnat]
  · refine lp_none ?_
    have hsp : ∃ K, splitL 32 (beforeT (sealT T)) = spW :: K := ⟨_, by rw [hb, hTv, splitL_app 32 spW _ (by decide)]⟩
    obtain ⟨K, hK⟩ := hsp
    unfold lpT
    rw [hK]
    split
    · rename_i w a b c he
      injection he with h1 _
      refine if_neg fun h5 => ?_
      have := h5.2.1
      rw [← h1] at this
      revert this
      decide
    · rfl
/-- What is right is what its numbers build. -/
theorem sp_same {s : Spa} (h : okSp s = true) : ((spLs s).length : Int) = s.count ∧ ((s.limit.toNat : Nat) : Int) = s.limit ∧ ((wid (spLs s).length s.limit.toNat : Nat) : Int) = s.width ∧ sameB (lowB (spLs s) (wid (spLs s).length s.limit.toNat)) s.low = true ∧ sameB (hiB (spLs s) s.limit.toNat (wid (spLs s).length s.limit.toNat)) s.high = true := by
  obtain ⟨k1, k2, k3, k4⟩ := okSp_lt h
  simp only [okSp, preSp, midSp, finSp, Bool.and_eq_true, decide_eq_true_eq] at h
  obtain ⟨⟨⟨⟨c0, c1⟩, _⟩, hw, _, _⟩, ⟨hm, _⟩, f1, f2⟩ := h
  have hc : (spLs s).length = s.count.toNat := hm
  have hwt : wid (spLs s).length s.limit.toNat = s.width.toNat := by rw [hc, hw]; simp
  refine ⟨by omega, by omega, ?_, by rw [hwt]; exact f1, by rw [hwt]; exact f2⟩
  rw [hwt, hw]
  simp

theorem c_laws_pSameSparse (a b : Spa) (h1 : a.count = b.count) (h2 : a.limit = b.limit) (h3 : a.width = b.width) (h4 : sameB a.low b.low = true) (h5 : sameB a.high b.high = true) : Fn Tryz.prog 13 [eSp a, eSp b] (· = .bool true) := by
  refine Fn.of free_bool fun h => ?_
  refine enter (by kernel_rfl) e13 (by kernel_rfl) rfl fun hok => ?_
  simp only [r13, initEnv_2]
  have hB : ∀ x y : Bt, Fn Tryz.prog 29 [eB x, eB y] (· = .bool (sameB x y)) := fun x y => c_laws_pSameBits x y
  have hl := hB a.low b.low
  have hh := hB a.high b.high
  rw [h4] at hl
  rw [h5] at hh
  obtain ⟨ac, al, aw, ⟨l1, l2⟩, ⟨m1, m2⟩⟩ := a
  obtain ⟨bc, bl, bw, ⟨p1, p2⟩, ⟨q1, q2⟩⟩ := b
  simp only at h1 h2 h3
  subst h1 h2 h3
  (try (simp (disch := first | omega | (simp <;> omega) | fail) only [push_cast, ↓reduceIte, Nat.reduceEqDiff, Nat.reduceAdd, Nat.reduceMul, Nat.reduceSub, Nat.reduceLT, Int.reduceToNat]))
  refine hl.call ?_
  (try (simp (disch := first | omega | (simp <;> omega) | fail) only [push_cast, ↓reduceIte, Nat.reduceEqDiff, Nat.reduceAdd, Nat.reduceMul, Nat.reduceSub, Nat.reduceLT, Int.reduceToNat]))
  refine hh.call ?_
  (try (simp (disch := first | omega | (simp <;> omega) | fail) only [push_cast, ↓reduceIte, Nat.reduceEqDiff, Nat.reduceAdd, Nat.reduceMul, Nat.reduceSub, Nat.reduceLT, Int.reduceToNat]))

theorem c_laws_pSamePeeled (a b : Pd) (h1 : a.seed = b.seed) (h2 : a.seg = b.seg) (h3 : lI a.marks = lI b.marks) : Fn Tryz.prog 14 [eP a, eP b] (· = .bool true) := by
  refine Fn.of free_bool fun h => ?_
  refine enter (by kernel_rfl) e14 (by kernel_rfl) rfl fun hok => ?_
  simp only [r14, initEnv_2]
  have hl := c_laws_pSameInts a.marks b.marks
  obtain ⟨a1, a2, a3⟩ := a
  obtain ⟨b1, b2, b3⟩ := b
  simp only at h1 h2 h3 hl
  subst h1 h2
  rw [decide_eq_true h3] at hl
  (try (simp (disch := first | omega | (simp <;> omega) | fail) only [push_cast, ↓reduceIte, Nat.reduceEqDiff, Nat.reduceAdd, Nat.reduceMul, Nat.reduceSub, Nat.reduceLT, Int.reduceToNat]))
  refine hl.call ?_
  (try (simp (disch := first | omega | (simp <;> omega) | fail) only [push_cast, ↓reduceIte, Nat.reduceEqDiff, Nat.reduceAdd, Nat.reduceMul, Nat.reduceSub, Nat.reduceLT, Int.reduceToNat]))

end Go.Proofs.YtbkcenkfecndjaaGreatDoor.M
