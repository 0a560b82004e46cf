/-
  What the functions return.
-/
import Derived.Test.YtakjemikampncaaGreatDoorFzd
import Derived.Test.YtakjemikampncaaGreatDoorCzc
namespace Go.Proofs.YtakjemikampncaaGreatDoor.M
open Go Go.RowKit
attribute [local instance] dqF
set_option linter.unusedVariables false
set_option linter.unusedSimpArgs false
set_option maxRecDepth 4000

theorem c_laws_szIntS (a : Option (List Int)) (left : Int) (hl0 : 0 ≤ left) (hleft : left ≤ 1048576) : Fn Tryz.prog 52 [eI a, .int .i64 left] (· = .int .i64 (szv left (lI a).length)) := by
  refine Fn.of free_int fun h => ?_
  refine enter (by kernel_rfl) e52 (by kernel_rfl) rfl fun hok => ?_
  simp only [r52, initEnv_2]
  have hlen := ok_eI (okV_0 hok)
  (try (simp (disch := first | omega | (simp <;> omega) | fail) only [push_cast, ↓reduceIte, Nat.reduceEqDiff, Nat.reduceAdd, Nat.reduceMul, Nat.reduceSub, Nat.reduceLT, Int.reduceToNat]))
  first | refine goC_split (fun hc => ?_) (fun hc => ?_) | refine cnd_split (fun hc => ?_) (fun hc => ?_)
  · (try (simp only [decide_eq_true_eq, decide_eq_false_iff_not, Bool.not_eq_true', Bool.not_eq_false', Bool.and_eq_true, Bool.or_eq_true, Int.not_lt, Int.not_le] at hc)); (try (simp (disch := first | omega | (simp <;> omega) | fail) only [push_cast, ↓reduceIte, Nat.reduceEqDiff, Nat.reduceAdd, Nat.reduceMul, Nat.reduceSub, Nat.reduceLT, Int.reduceToNat]))
    rw [szv, if_neg (by omega)]
  · (try (simp only [decide_eq_true_eq, decide_eq_false_iff_not, Bool.not_eq_true', Bool.not_eq_false', Bool.and_eq_true, Bool.or_eq_true, Int.not_lt, Int.not_le] at hc)); (try (simp (disch := first | omega | (simp <;> omega) | fail) only [push_cast, ↓reduceIte, Nat.reduceEqDiff, Nat.reduceAdd, Nat.reduceMul, Nat.reduceSub, Nat.reduceLT, Int.reduceToNat]))
    rw [szv, if_pos (by omega)]

theorem c_laws_szBits (b : Bt) (left : Int) (hl0 : 0 ≤ left) (hleft : left ≤ 1048576) : Fn Tryz.prog 29 [eB b, .int .i64 left] (· = .int .i64 (szv left (lI b.words).length)) := by
  refine Fn.of free_int fun h => ?_
  refine enter (by kernel_rfl) e29 (by kernel_rfl) rfl fun hok => ?_
  simp only [r29, initEnv_2]
  (try (simp (disch := first | omega | (simp <;> omega) | fail) only [push_cast, ↓reduceIte, Nat.reduceEqDiff, Nat.reduceAdd, Nat.reduceMul, Nat.reduceSub, Nat.reduceLT, Int.reduceToNat]))
  refine (c_laws_szIntS _ _ hl0 hleft).call ?_
  (try (simp (disch := first | omega | (simp <;> omega) | fail) only [push_cast, ↓reduceIte, Nat.reduceEqDiff, Nat.reduceAdd, Nat.reduceMul, Nat.reduceSub, Nat.reduceLT, Int.reduceToNat]))
  first | refine goC_split (fun hc => ?_) (fun hc => ?_) | refine cnd_split (fun hc => ?_) (fun hc => ?_)
  · (try (simp only [decide_eq_true_eq, decide_eq_false_iff_not, Bool.not_eq_true', Bool.not_eq_false', Bool.and_eq_true, Bool.or_eq_true, Int.not_lt, Int.not_le] at hc)); (try (simp (disch := first | omega | (simp <;> omega) | fail) only [push_cast, ↓reduceIte, Nat.reduceEqDiff, Nat.reduceAdd, Nat.reduceMul, Nat.reduceSub, Nat.reduceLT, Int.reduceToNat]))
    unfold szv at hc ⊢
    split at hc
    · omega
    · rename_i hn
      rw [if_neg hn]
  · (try (simp only [decide_eq_true_eq, decide_eq_false_iff_not, Bool.not_eq_true', Bool.not_eq_false', Bool.and_eq_true, Bool.or_eq_true, Int.not_lt, Int.not_le] at hc)); (try (simp (disch := first | omega | (simp <;> omega) | fail) only [push_cast, ↓reduceIte, Nat.reduceEqDiff, Nat.reduceAdd, Nat.reduceMul, Nat.reduceSub, Nat.reduceLT, Int.reduceToNat]))

theorem c_laws_szTrie (t : Tr) (left : Int) (hl0 : 0 ≤ left) (hleft : left ≤ 1048576) (hlab : t.lab.length ≤ 9223372036854775807) : Fn Tryz.prog 11 [eTr t, .int .i64 left] (· = .int .i64 (szv left ((lI t.sh.words).length + (lI t.en.words).length + t.lab.length))) := by
  refine Fn.of free_int fun h => ?_
  refine enter (by kernel_rfl) e11 (by kernel_rfl) rfl fun hok => ?_
  simp only [r11, initEnv_2]
  (try (simp (disch := first | omega | (simp <;> omega) | fail) only [push_cast, ↓reduceIte, Nat.reduceEqDiff, Nat.reduceAdd, Nat.reduceMul, Nat.reduceSub, Nat.reduceLT, Int.reduceToNat]))
  refine (c_laws_szBits t.sh left hl0 hleft).call ?_
  (try (simp (disch := first | omega | (simp <;> omega) | fail) only [push_cast, ↓reduceIte, Nat.reduceEqDiff, Nat.reduceAdd, Nat.reduceMul, Nat.reduceSub, Nat.reduceLT, Int.reduceToNat]))
  first | refine goC_split (fun hc => ?_) (fun hc => ?_) | refine cnd_split (fun hc => ?_) (fun hc => ?_)
  · (try (simp only [decide_eq_true_eq, decide_eq_false_iff_not, Bool.not_eq_true', Bool.not_eq_false', Bool.and_eq_true, Bool.or_eq_true, Int.not_lt, Int.not_le] at hc)); (try (simp (disch := first | omega | (simp <;> omega) | fail) only [push_cast, ↓reduceIte, Nat.reduceEqDiff, Nat.reduceAdd, Nat.reduceMul, Nat.reduceSub, Nat.reduceLT, Int.reduceToNat]))
    unfold szv at hc ⊢
    split at hc
    · omega
    · rw [if_neg (by omega)]
  (try (simp only [decide_eq_true_eq, decide_eq_false_iff_not, Bool.not_eq_true', Bool.not_eq_false', Bool.and_eq_true, Bool.or_eq_true, Int.not_lt, Int.not_le] at hc)); (try (simp (disch := first | omega | (simp <;> omega) | fail) only [push_cast, ↓reduceIte, Nat.reduceEqDiff, Nat.reduceAdd, Nat.reduceMul, Nat.reduceSub, Nat.reduceLT, Int.reduceToNat]))
  refine (c_laws_szBits t.en _ hc (by unfold szv; split <;> omega)).call ?_
  (try (simp (disch := first | omega | (simp <;> omega) | fail) only [push_cast, ↓reduceIte, Nat.reduceEqDiff, Nat.reduceAdd, Nat.reduceMul, Nat.reduceSub, Nat.reduceLT, Int.reduceToNat]))
  first | refine goC_split (fun hd => ?_) (fun hd => ?_) | refine cnd_split (fun hd => ?_) (fun hd => ?_)
  · (try (simp only [decide_eq_true_eq, decide_eq_false_iff_not, Bool.not_eq_true', Bool.not_eq_false', Bool.and_eq_true, Bool.or_eq_true, Int.not_lt, Int.not_le] at hd)); (try (simp (disch := first | omega | (simp <;> omega) | fail) only [push_cast, ↓reduceIte, Nat.reduceEqDiff, Nat.reduceAdd, Nat.reduceMul, Nat.reduceSub, Nat.reduceLT, Int.reduceToNat]))
    unfold szv at hc hd ⊢
    split at hc
    · split at hd
      · omega
      · rw [if_neg (by omega)]
    · omega
  (try (simp only [decide_eq_true_eq, decide_eq_false_iff_not, Bool.not_eq_true', Bool.not_eq_false', Bool.and_eq_true, Bool.or_eq_true, Int.not_lt, Int.not_le] at hd)); (try (simp (disch := first | omega | (simp <;> omega) | fail) only [push_cast, ↓reduceIte, Nat.reduceEqDiff, Nat.reduceAdd, Nat.reduceMul, Nat.reduceSub, Nat.reduceLT, Int.reduceToNat]))
  have hv2 : szv (szv left (lI t.sh.words).length) (lI t.en.words).length = left - (lI t.sh.words).length - (lI t.en.words).length ∧ (lI t.sh.words).length + (lI t.en.words).length ≤ left := by
    unfold szv at hc hd ⊢
    split at hc
    · rename_i h1
      rw [if_pos h1] at hd ⊢
      split at hd
      · rename_i h2
        rw [if_pos h2]
        omega
      · omega
    · omega
  rw [hv2.1]
  clear hd hc
  (try (simp (disch := first | omega | (simp <;> omega) | fail) only [push_cast, ↓reduceIte, Nat.reduceEqDiff, Nat.reduceAdd, Nat.reduceMul, Nat.reduceSub, Nat.reduceLT, Int.reduceToNat]))
  first | refine goC_split (fun hd => ?_) (fun hd => ?_) | refine cnd_split (fun hd => ?_) (fun hd => ?_)
  · (try (simp only [decide_eq_true_eq, decide_eq_false_iff_not, Bool.not_eq_true', Bool.not_eq_false', Bool.and_eq_true, Bool.or_eq_true, Int.not_lt, Int.not_le] at hd)); (try (simp (disch := first | omega | (simp <;> omega) | fail) only [push_cast, ↓reduceIte, Nat.reduceEqDiff, Nat.reduceAdd, Nat.reduceMul, Nat.reduceSub, Nat.reduceLT, Int.reduceToNat]))
    unfold szv
    rw [if_neg (by omega)]
  · (try (simp only [decide_eq_true_eq, decide_eq_false_iff_not, Bool.not_eq_true', Bool.not_eq_false', Bool.and_eq_true, Bool.or_eq_true, Int.not_lt, Int.not_le] at hd)); (try (simp (disch := first | omega | (simp <;> omega) | fail) only [push_cast, ↓reduceIte, Nat.reduceEqDiff, Nat.reduceAdd, Nat.reduceMul, Nat.reduceSub, Nat.reduceLT, Int.reduceToNat]))
    unfold szv
    rw [if_pos (by omega)]
    have : left - (lI t.sh.words).length - (lI t.en.words).length - (t.lab.length : Int) = left - (((lI t.sh.words).length + (lI t.en.words).length + t.lab.length : Nat) : Int) := by omega
    rw [this]

theorem c_laws_toIntS_o (a : Option (List Int)) (ha : (lI a).length ≤ 1048576) : FnO Tryz.prog 58 [eI a] (· = eI (some (lI a))) := by
  intro h
  refine enter (by kernel_rfl) e58 (by kernel_rfl) rfl fun hok => ?_
  simp only [r58, initEnv_1]
  (try (simp (disch := first | omega | (simp <;> omega) | fail) only [push_cast, ↓reduceIte, Nat.reduceEqDiff, Nat.reduceAdd, Nat.reduceMul, Nat.reduceSub, Nat.reduceLT, Int.reduceToNat]))
  refine T_for (lI a).length (fun i e h' => Pins e [(0, eI a), (3, .sl h.length 0 1 (lI a).length (lI a).length), (4, .int .i64 i)] ∧ h' = h ++ [some (.cells (fill (.int .i64) (lI a) (.int .i64 0) i))]) ?_ ?_
  · (try (simp (disch := first | omega | (simp <;> omega) | fail) only [push_cast, ↓reduceIte, Nat.reduceEqDiff, Nat.reduceAdd, Nat.reduceMul, Nat.reduceSub, Nat.reduceLT, Int.reduceToNat, fill_0]))
  rintro i e h' hi ⟨hp, rfl⟩
  refine T_pins hp fun e => ?_
  (try (simp (disch := first | omega | (simp <;> omega) | fail) only [push_cast, ↓reduceIte, Nat.reduceEqDiff, Nat.reduceAdd, Nat.reduceMul, Nat.reduceSub, Nat.reduceLT, Int.reduceToNat]))
  first | refine goC_split (fun hc => ?_) (fun hc => ?_) | refine cnd_split (fun hc => ?_) (fun hc => ?_)
  · (try (simp only [decide_eq_true_eq, decide_eq_false_iff_not, Bool.not_eq_true', Bool.not_eq_false', Bool.and_eq_true, Bool.or_eq_true, Int.not_lt, Int.not_le] at hc)); (try (simp (disch := first | omega | (simp <;> omega) | fail) only [push_cast, ↓reduceIte, Nat.reduceEqDiff, Nat.reduceAdd, Nat.reduceMul, Nat.reduceSub, Nat.reduceLT, Int.reduceToNat]))
    (try (simp (disch := first | omega | (simp <;> omega) | fail) only [push_cast, ↓reduceIte, Nat.reduceEqDiff, Nat.reduceAdd, Nat.reduceMul, Nat.reduceSub, Nat.reduceLT, Int.reduceToNat, fill_len hi]))
    rw [fill_next (d := 0) (by omega) rfl]
  · (try (simp only [decide_eq_true_eq, decide_eq_false_iff_not, Bool.not_eq_true', Bool.not_eq_false', Bool.and_eq_true, Bool.or_eq_true, Int.not_lt, Int.not_le] at hc)); (try (simp (disch := first | omega | (simp <;> omega) | fail) only [push_cast, ↓reduceIte, Nat.reduceEqDiff, Nat.reduceAdd, Nat.reduceMul, Nat.reduceSub, Nat.reduceLT, Int.reduceToNat]))
    rw [fill_all (by omega)]
    exact ⟨_, ow_map (fun _ => rfl) (by rw [cells_h0]; rfl) rfl (Nat.le_refl _), rfl⟩
theorem c_laws_toIntS (a : Option (List Int)) (ha : (lI a).length ≤ 1048576) : Fn Tryz.prog 58 [eI a] (· = eI (some (lI a))) := (c_laws_toIntS_o a ha).fn

theorem c_laws_toBits_o (b : Bt) (ha : (lI b.words).length ≤ 1048576) : FnO Tryz.prog 32 [eB b] (· = eB (cpB b)) := by
  intro h
  refine enter (by kernel_rfl) e32 (by kernel_rfl) rfl fun hok => ?_
  simp only [r32, initEnv_1]
  (try (simp (disch := first | omega | (simp <;> omega) | fail) only [push_cast, ↓reduceIte, Nat.reduceEqDiff, Nat.reduceAdd, Nat.reduceMul, Nat.reduceSub, Nat.reduceLT, Int.reduceToNat]))
  refine (c_laws_toIntS_o _ ha).use fun x t l hR how => ?_
  subst hR
  obtain ⟨bb, rfl⟩ := Ow.sl1 (show Ow _ [x] [.ro 1 _ _] _ from how)
  (try (simp (disch := first | omega | (simp <;> omega) | fail) only [push_cast, ↓reduceIte, Nat.reduceEqDiff, Nat.reduceAdd, Nat.reduceMul, Nat.reduceSub, Nat.reduceLT, Int.reduceToNat]))
  refine ⟨_, (Ow.atom rfl (how.shift (fun c hc => ?_) (by simp))).aggOf, rfl⟩
  rw [List.append_assoc]
  exact tl_k (p := [_, _, _]) (q := [_, _, _]) rfl (by simpa using hc)
theorem c_laws_toBits (b : Bt) (ha : (lI b.words).length ≤ 1048576) : Fn Tryz.prog 32 [eB b] (· = eB (cpB b)) := (c_laws_toBits_o b ha).fn

theorem c_laws_toTrie (t : Tr) (h1 : (lI t.sh.words).length ≤ 1048576) (h2 : (lI t.en.words).length ≤ 1048576) : Fn Tryz.prog 13 [eTr t] (· = eTr (cpTr t)) := by
  refine Fn.of free_eTr fun h => ?_
  refine enter (by kernel_rfl) e13 (by kernel_rfl) rfl fun hok => ?_
  simp only [r13, initEnv_1]
  (try (simp (disch := first | omega | (simp <;> omega) | fail) only [push_cast, ↓reduceIte, Nat.reduceEqDiff, Nat.reduceAdd, Nat.reduceMul, Nat.reduceSub, Nat.reduceLT, Int.reduceToNat]))
  refine (c_laws_toBits t.sh h1).call ?_
  (try (simp (disch := first | omega | (simp <;> omega) | fail) only [push_cast, ↓reduceIte, Nat.reduceEqDiff, Nat.reduceAdd, Nat.reduceMul, Nat.reduceSub, Nat.reduceLT, Int.reduceToNat]))
  refine (c_laws_toBits t.en h2).call ?_
  (try (simp (disch := first | omega | (simp <;> omega) | fail) only [push_cast, ↓reduceIte, Nat.reduceEqDiff, Nat.reduceAdd, Nat.reduceMul, Nat.reduceSub, Nat.reduceLT, Int.reduceToNat]))
  all_goals (try rfl)
theorem c_laws_toTrie_o (t : Tr) (h1 : (lI t.sh.words).length ≤ 1048576) (h2 : (lI t.en.words).length ≤ 1048576) : FnO Tryz.prog 13 [eTr t] (· = eTr (cpTr t)) := by
  intro h
  refine enter (by kernel_rfl) e13 (by kernel_rfl) rfl fun hok => ?_
  simp only [r13, initEnv_1]
  (try (simp (disch := first | omega | (simp <;> omega) | fail) only [push_cast, ↓reduceIte, Nat.reduceEqDiff, Nat.reduceAdd, Nat.reduceMul, Nat.reduceSub, Nat.reduceLT, Int.reduceToNat]))
  refine (c_laws_toBits_o t.sh h1).use fun x t1 l hR how => ?_
  subst hR
  obtain ⟨w1, F1, rfl, f1, f2, f3, f4, _⟩ := ow_bt how
  (try (simp (disch := first | omega | (simp <;> omega) | fail) only [push_cast, ↓reduceIte, Nat.reduceEqDiff, Nat.reduceAdd, Nat.reduceMul, Nat.reduceSub, Nat.reduceLT, Int.reduceToNat, f3, f4]))
  refine (c_laws_toBits_o t.en h2).use fun x t2 l2 hR how2 => ?_
  subst hR
  obtain ⟨w2, F2, rfl, k1, k2, k3, k4, _⟩ := ow_bt how2
  (try (simp (disch := first | omega | (simp <;> omega) | fail) only [push_cast, ↓reduceIte, Nat.reduceEqDiff, Nat.reduceAdd, Nat.reduceMul, Nat.reduceSub, Nat.reduceLT, Int.reduceToNat, f3, f4, k3, k4]))
  refine ⟨_, ow_tr (n0 := h.length) (f1.frame fun c hc => ?_) (k1.frame fun c hc => ?_) (fun c hc => ?_) (fun c hc => ⟨?_, fun hh => ?_⟩), rfl⟩
  · have h5 := f2 c hc
    have h6 := h5.1
    have h7 := h5.2
    rw [List.append_assoc]
    exact tl_k2 (p := [_, _, _]) (q := [_, _, _]) rfl (by simpa using h6) (by simp at h7 ⊢; omega)
  · have h5 := (k2 c hc).1
    rw [List.append_assoc]
    exact tl_k (p := [_, _, _]) (q := [_, _, _]) rfl (by simp at h5 ⊢; omega)
  · have h5 := (f2 c hc).1
    simp at h5
    omega
  · have h5 := (k2 c hc).1
    simp at h5
    omega
  · have h5 := (k2 c hc).1
    have h6 := (f2 c hh).2
    simp at h5 h6
    omega

def shTrie : Sh := .st [.st [.int .i64, .sl (.int .i64) 1], .st [.int .i64, .sl (.int .i64) 1], .str]
theorem fit_trie {zs : List AV} (h : Fit shTrie zs) : ∃ t, argOf shTrie zs = eTr t ∧ t.lab.length ≤ 9223372036854775807 := by
  obtain ⟨x1, y1, rfl, h1, h⟩ := fits_cons (fit_st h)
  obtain ⟨x2, y2, rfl, h2, h⟩ := fits_cons h
  obtain ⟨x3, y3, rfl, h3, h⟩ := fits_cons h
  obtain rfl := fits_nil h
  obtain ⟨a1, b1, rfl, g1, g⟩ := fits_cons (fit_st h1)
  obtain ⟨a2, b2, rfl, g2, g⟩ := fits_cons g
  obtain rfl := fits_nil g
  obtain ⟨a, rfl, _⟩ := fit_int g1
  obtain ⟨ws, rfl⟩ := fit_ints g2
  obtain ⟨c1, d1, rfl, k1, k⟩ := fits_cons (fit_st h2)
  obtain ⟨c2, d2, rfl, k2, k⟩ := fits_cons k
  obtain rfl := fits_nil k
  obtain ⟨c, rfl, _⟩ := fit_int k1
  obtain ⟨vs, rfl⟩ := fit_ints k2
  obtain ⟨lab, rfl, hl⟩ := fit_str h3
  exact ⟨⟨⟨a, ws⟩, ⟨c, vs⟩, lab⟩, rfl, hl⟩
def isZT (v : AV) : Prop := ∃ n b, v = .tup [.int .i64 n, .bool b]
theorem isZT_zF : isZT zF := ⟨_, _, rfl⟩
theorem isZT_ch {N : List Str} {s : Str} : isZT (chR N s) := by
  unfold chR
  split
  · exact isZT_zF
  · exact ⟨_, _, rfl⟩
theorem isZT_pa {t : Tr} {i : Int} : isZT (paV t i) := by
  unfold paV
  split
  · split
    · exact ⟨_, _, rfl⟩
    · exact isZT_zF
  · exact isZT_zF
theorem isZT_chV {t : Tr} {i c : Int} : isZT (chV t i c) := by
  unfold chV
  split
  · split
    · exact isZT_ch
    · exact isZT_zF
  · exact isZT_zF
theorem isZT_tx {t : Tr} {s : Str} : isZT (txV t s) := by
  unfold txV
  split
  · split
    · exact ⟨_, _, rfl⟩
    · exact isZT_zF
  · exact isZT_zF
theorem isZT_rk {t : Tr} {s : Str} : isZT (rkV t s) := by
  unfold rkV
  split
  · exact ⟨_, _, rfl⟩
  · exact isZT_zF

def sh_FnExactImageOfTrie : List Sh := [shTrie]
theorem itV_form (t : Tr) : ∃ z cc, itV t = .tup [.str z, .bool cc] := by
  unfold itV
  split <;> exact ⟨_, _, rfl⟩
theorem law_FnExactImageOfTrie (ys : List AV) (hy : ArgsFit sh_FnExactImageOfTrie ys) : Call Tryz.prog 4 ys [] Nowhere (fun x _ => x = .bool true) := by
  obtain ⟨x1, y1, rfl, h1, hy⟩ := argsFit_cons hy
  obtain rfl := argsFit_nil hy
  obtain ⟨t, he, hlr⟩ := fit_trie h1
  rw [he]
  refine (?_ : ∀ h, Call Tryz.prog 4 [eTr t] h Nowhere (fun x _ => x = .bool true)) []
  intro h
  refine enter (by kernel_rfl) e4 (by kernel_rfl) rfl fun hok => ?_
  simp only [r4, initEnv_1]
  (try (simp (disch := first | omega | (simp <;> omega) | fail) only [push_cast, ↓reduceIte, Nat.reduceEqDiff, Nat.reduceAdd, Nat.reduceMul, Nat.reduceSub, Nat.reduceLT, Int.reduceToNat]))
  refine (c_laws_szTrie t 1048576 (by omega) (by omega) hlr).call ?_
  (try (simp (disch := first | omega | (simp <;> omega) | fail) only [push_cast, ↓reduceIte, Nat.reduceEqDiff, Nat.reduceAdd, Nat.reduceMul, Nat.reduceSub, Nat.reduceLT, Int.reduceToNat]))
  first | refine goC_split (fun hd => ?_) (fun hd => ?_) | refine cnd_split (fun hd => ?_) (fun hd => ?_)
  · (try (simp only [decide_eq_true_eq, decide_eq_false_iff_not, Bool.not_eq_true', Bool.not_eq_false', Bool.and_eq_true, Bool.or_eq_true, Int.not_lt, Int.not_le] at hd)); (try (simp (disch := first | omega | (simp <;> omega) | fail) only [push_cast, ↓reduceIte, Nat.reduceEqDiff, Nat.reduceAdd, Nat.reduceMul, Nat.reduceSub, Nat.reduceLT, Int.reduceToNat]))
  (try (simp only [decide_eq_true_eq, decide_eq_false_iff_not, Bool.not_eq_true', Bool.not_eq_false', Bool.and_eq_true, Bool.or_eq_true, Int.not_lt, Int.not_le] at hd)); (try (simp (disch := first | omega | (simp <;> omega) | fail) only [push_cast, ↓reduceIte, Nat.reduceEqDiff, Nat.reduceAdd, Nat.reduceMul, Nat.reduceSub, Nat.reduceLT, Int.reduceToNat]))
  have hw := szv_ok hd
  have hw1 : (lI t.sh.words).length ≤ 1048576 := by omega
  have hw2 : (lI t.en.words).length ≤ 1048576 := by omega
  refine (c_laws_toTrie t hw1 hw2).call ?_
  (try (simp (disch := first | omega | (simp <;> omega) | fail) only [push_cast, ↓reduceIte, Nat.reduceEqDiff, Nat.reduceAdd, Nat.reduceMul, Nat.reduceSub, Nat.reduceLT, Int.reduceToNat]))
  refine (c_spec_ImageOfTrie (cpTr t)).call ?_
  obtain ⟨z, cc, hv⟩ := itV_form (cpTr t)
  have himp := c_impl_ImageOfTrie (cpTr t)
  rw [hv] at himp ⊢
  (try (simp (disch := first | omega | (simp <;> omega) | fail) only [push_cast, ↓reduceIte, Nat.reduceEqDiff, Nat.reduceAdd, Nat.reduceMul, Nat.reduceSub, Nat.reduceLT, Int.reduceToNat]))
  refine (c_laws_toTrie t hw1 hw2).call ?_
  (try (simp (disch := first | omega | (simp <;> omega) | fail) only [push_cast, ↓reduceIte, Nat.reduceEqDiff, Nat.reduceAdd, Nat.reduceMul, Nat.reduceSub, Nat.reduceLT, Int.reduceToNat]))
  refine himp.call ?_
  cases cc
  all_goals
    (try (simp (disch := first | omega | (simp <;> omega) | fail) only [push_cast, ↓reduceIte, Nat.reduceEqDiff, Nat.reduceAdd, Nat.reduceMul, Nat.reduceSub, Nat.reduceLT, Int.reduceToNat]))
    refine (c_laws_toTrie t hw1 hw2).call ?_
    (try (simp (disch := first | omega | (simp <;> omega) | fail) only [push_cast, ↓reduceIte, Nat.reduceEqDiff, Nat.reduceAdd, Nat.reduceMul, Nat.reduceSub, Nat.reduceLT, Int.reduceToNat]))
    refine (c_laws_eqTrie (cpTr t)).call ?_
    (try (simp (disch := first | omega | (simp <;> omega) | fail) only [push_cast, ↓reduceIte, Nat.reduceEqDiff, Nat.reduceAdd, Nat.reduceMul, Nat.reduceSub, Nat.reduceLT, Int.reduceToNat]))

end Go.Proofs.YtakjemikampncaaGreatDoor.M
