/-
  What the functions return.
-/
import Derived.Test.YtjfgmimgmapeeaaGreatFye
import Derived.Test.YtjfgmimgmapeeaaGreatCyd
namespace Go.Proofs.YtjfgmimgmapeeaaGreat.M
open Go Go.RowKit
set_option linter.unusedVariables false
set_option linter.unusedSimpArgs false
set_option maxRecDepth 4000

def refO (s : Sy) : Option (List Int) := if okSy s then optL (setL (ofN (nSy s) (refN s))) else none
def refOV (s : Sy) : AV := .tup [eI (refO s), .bool (decide (0 < (lI (refO s)).length))]
theorem free_refOV {s : Sy} : Free (refOV s) := free_tup (free_cons_ free_eI (free_cons_ free_bool free_nil_))
theorem refO_len {s : Sy} : (lI (refO s)).length ≤ 64 := by
  unfold refO
  split
  · rw [lI_optL]
    exact setL_len
  · simp [lI]
theorem refO_zero {s : Sy} {m : Nat} (ho : OkE s (nSy s) m) (hk : okSy s = true) : refN s = 0 ↔ refO s = none := by
  have h1 : (setL (ofN (nSy s) (refN s))).length = 0 ↔ refN s = 0 := (ho.msk (i := (lB s.rows).length) (Nat.le_refl _)).none (by have := ho.nr; omega)
  unfold refO
  rw [if_pos hk]
  unfold optL
  constructor
  · intro h0
    have := h1.2 h0
    rw [if_pos (List.eq_nil_of_length_eq_zero this)]
  · intro h0
    split at h0
    · rename_i hs
      refine h1.1 ?_
      rw [hs]
      rfl
    · cases h0

def nT (seg : Int) : Nat := (3 * seg).toNat
def mT (seg : Int) : Nat := (nT seg + 15) / 16
def tabSy (seed seg : Int) (keys : Option (List Str)) (vals : Option (List Int)) (bit : Nat) : Sy := sysT (nT seg) (mT seg) (edges seed (lS keys) seg) (bitR (lI vals) bit)
structure TaskF (seed seg width : Int) (keys : Option (List Str)) (vals : Option (List Int)) : Prop where
  s0 : 0 ≤ seed
  s1 : seed ≤ 9999
  g0 : 1 ≤ seg
  g1 : seg ≤ 24
  w0 : 1 ≤ width
  w1 : width ≤ 8
  kl : (lS keys).length ≤ 40
  vl : (lI vals).length = (lS keys).length
  vb : ∀ v ∈ lI vals, 0 ≤ v ∧ v ≤ 255
  nn : 3 * seg = (nT seg : Int)
  n1 : 1 ≤ nT seg
  n2 : nT seg ≤ 72
  mm : (((nT seg : Nat) : Int) + 15) / 16 = (mT seg : Int)
  el : ∀ e ∈ edges seed (lS keys) seg, e.length ≤ 1000
  eb : ∀ e ∈ edges seed (lS keys) seg, ∀ p ∈ e, 0 ≤ p ∧ p < (nT seg : Int)
theorem edges_el {seed seg : Int} {ks : List Str} : ∀ e ∈ edges seed ks seg, e.length ≤ 1000 := by
  intro e he
  obtain ⟨k, _, rfl⟩ := List.mem_map.1 he
  rw [tri_len]
  omega
theorem edges_eb {seed seg : Int} {ks : List Str} (hg : 1 ≤ seg) : ∀ e ∈ edges seed ks seg, ∀ p ∈ e, 0 ≤ p ∧ p < (nT seg : Int) := by
  intro e he p hp
  obtain ⟨k, _, rfl⟩ := List.mem_map.1 he
  obtain ⟨i, hi, rfl⟩ := List.mem_iff_getElem.1 hp
  rw [tri_len] at hi
  have hb := tri_bd (seed := seed) (key := k) (seg := seg) (i := i) (by omega) hi
  have hgd : (tri seed k seg 3).getD i 0 = (tri seed k seg 3)[i]'(by rw [tri_len]; exact hi) := by
    rw [List.getD_eq_getElem?_getD, List.getElem?_eq_getElem (by rw [tri_len]; exact hi)]
    rfl
  rw [hgd] at hb
  unfold nT
  omega
theorem task_facts {seed seg width : Int} {keys : Option (List Str)} {vals : Option (List Int)} (h : taskOk seed seg width keys vals = true) : TaskF seed seg width keys vals := by
  simp only [taskOk, okKeys, Bool.and_eq_true, decide_eq_true_eq] at h
  obtain ⟨⟨⟨s0, s1⟩, ⟨_, kl⟩, g0, g1⟩, ⟨w0, w1⟩, vl, va⟩ := h
  have hw := pow_le256 (w := width.toNat) (by omega)
  have hn : 3 * seg = (nT seg : Int) := by unfold nT; omega
  refine ⟨s0, s1, g0, g1, w0, w1, by omega, by omega, fun v hv => ?_, hn, by omega, by omega, by unfold mT; omega, edges_el, edges_eb g0⟩
  have := List.all_eq_true.1 va v hv
  simp only [Bool.and_eq_true, decide_eq_true_eq] at this
  omega
theorem TaskF.ok {seed seg width : Int} {keys : Option (List Str)} {vals : Option (List Int)} (h : TaskF seed seg width keys vals) (bit : Nat) : okSy (tabSy seed seg keys vals bit) = true :=
  okSy_T h.n1 h.n2 h.mm (by rw [edges_len]; exact h.kl) (by rw [bitR_len, edges_len]; exact h.vl) h.eb
/-- What a table's refusal is. -/
def tabRefO (w : Nat) (f : Nat → Sy) (b : Nat) : AV := match (List.range w).find? (fun j => decide (refN (f j) ≠ 0)) with
  | some j => .tup [.int .i64 j, eI (refO (f j)), .bool true]
  | none => .tup [.int .i64 b, .nils, .bool false]
theorem find_none {w : Nat} {p : Nat → Bool} (h : ∀ j, j < w → p j = false) : (List.range w).find? p = none := by
  rw [List.find?_eq_none]
  intro j hj
  rw [h j (List.mem_range.1 hj)]
  simp
theorem find_some {w i : Nat} {p : Nat → Bool} (hi : i < w) (h : ∀ j, j < i → p j = false) (hp : p i = true) : (List.range w).find? p = some i := by
  have e : List.range w = List.range i ++ (List.range (w - i)).map (i + ·) := by
    rw [← List.range_add]
    congr 1
    omega
  rw [e, List.find?_append, find_none h]
  obtain ⟨k, hk⟩ : ∃ k, w - i = k + 1 := ⟨w - i - 1, by omega⟩
  rw [hk, List.range_succ_eq_map]
  simp [hp]
theorem tabRef_none {w : Nat} {f : Nat → Sy} (h : ∀ j, j < w → refN (f j) = 0) : tabRefO w f 0 = .tup [.int .i64 0, .nils, .bool false] := by
  unfold tabRefO
  rw [find_none fun j hj => by simp [h j hj]]
  rfl
theorem tabRef_some {w i : Nat} {f : Nat → Sy} (hi : i < w) (h : ∀ j, j < i → refN (f j) = 0) (hp : refN (f i) ≠ 0) : tabRefO w f 0 = .tup [.int .i64 i, eI (refO (f i)), .bool true] := by
  unfold tabRefO
  rw [find_some hi (fun j hj => by simp [h j hj]) (by simp [hp])]
def tabRefV (seed seg width : Int) (keys : Option (List Str)) (vals : Option (List Int)) : AV :=
  if taskOk seed seg width keys vals then tabRefO width.toNat (tabSy seed seg keys vals) 0 else .tup [.int .i64 0, .nils, .bool false]
theorem tabRefV_tup (seed seg width : Int) (keys : Option (List Str)) (vals : Option (List Int)) : ∃ (n : Int) (a : Option (List Int)) (b : Bool), tabRefV seed seg width keys vals = .tup [.int .i64 n, eI a, .bool b] ∧ (lI a).length ≤ 64 := by
  unfold tabRefV tabRefO
  split
  · split
    · exact ⟨_, _, _, rfl, refO_len⟩
    · exact ⟨_, none, _, rfl, by simp [lI]⟩
  · exact ⟨_, none, _, rfl, by simp [lI]⟩
theorem free_tabRefV {seed seg width : Int} {keys : Option (List Str)} {vals : Option (List Int)} : Free (tabRefV seed seg width keys vals) := by
  obtain ⟨n, a, b, h, _⟩ := tabRefV_tup seed seg width keys vals
  rw [h]
  exact free_tup (free_cons_ free_int (free_cons_ free_eI (free_cons_ free_bool free_nil_)))
/-- A refusal, if there is one. -/
theorem refO_pos {s : Sy} {m : Nat} (ho : OkE s (nSy s) m) (hk : okSy s = true) (h0 : refN s ≠ 0) : refO s = some (setL (ofN (nSy s) (refN s))) ∧ 0 < (setL (ofN (nSy s) (refN s))).length := by
  have hne : refO s ≠ none := fun h5 => h0 ((refO_zero ho hk).2 h5)
  unfold refO at hne ⊢
  rw [if_pos hk] at hne ⊢
  unfold optL at hne ⊢
  by_cases h5 : setL (ofN (nSy s) (refN s)) = []
  · rw [if_pos h5] at hne
    exact absurd rfl hne
  · rw [if_neg h5]
    exact ⟨rfl, List.length_pos_iff.2 h5⟩
theorem refOV_zero {s : Sy} {m : Nat} (ho : OkE s (nSy s) m) (hk : okSy s = true) (h0 : refN s = 0) : refOV s = .tup [.nils, .bool false] := by
  unfold refOV
  rw [(refO_zero ho hk).1 h0]
  rfl
theorem refOV_pos {s : Sy} {m : Nat} (ho : OkE s (nSy s) m) (hk : okSy s = true) (h0 : refN s ≠ 0) : refOV s = .tup [eI (refO s), .bool true] := by
  obtain ⟨h1, h2⟩ := refO_pos ho hk h0
  unfold refOV
  rw [h1]
  have : (lI (some (setL (ofN (nSy s) (refN s))))).length = (setL (ofN (nSy s) (refN s))).length := rfl
  rw [this, decide_eq_true h2]

/-- A number told bit by bit: the next bit. -/
theorem mkN_lt {g : Nat → Bool} {n : Nat} : mkN n g < 2 ^ n := by
  refine Nat.lt_pow_two_of_testBit _ fun j hj => ?_
  rw [mkN_bit]
  simp
  omega
theorem mkN_or {g : Nat → Bool} {n : Nat} : mkN (n + 1) g = if g n then mkN n g ||| 2 ^ n else mkN n g := by
  refine Nat.eq_of_testBit_eq fun j => ?_
  rw [mkN_succ, setB_bit]
  by_cases hj : j = n
  · subst hj
    rw [if_pos rfl]
    cases hg : g j
    · simp [mkN_bit]
    · simp
  · rw [if_neg hj]
    cases hg : g n
    · simp
    · simp only [if_true, Nat.testBit_or, Nat.testBit_two_pow]
      simp [Ne.symm hj]
theorem mkN_add {g : Nat → Bool} {n : Nat} : mkN (n + 1) g = if g n then mkN n g + 2 ^ n else mkN n g := by
  rw [mkN_or]
  split
  · rw [Nat.or_comm]
    have h1 := Nat.two_pow_add_eq_or_of_lt (mkN_lt (g := g) (n := n)) 1
    simp only [Nat.mul_one] at h1
    omega
  · rfl
/-- The cells of a table: the bits below i, and bit i in the cells before k. -/
def cellsL (G : Nat → Nat → Bool) (n i k : Nat) : List Int := (List.range n).map fun p => ((mkN (if p < k then i + 1 else i) (G p) : Nat) : Int)
theorem cellsL_len {G : Nat → Nat → Bool} {n i k : Nat} : (cellsL G n i k).length = n := by simp [cellsL]
theorem cellsL_get {G : Nat → Nat → Bool} {n i k : Nat} (hk : k < n) : ((cellsL G n i k).map (AV.int .i64))[k]? = some (.int .i64 (mkN i (G k) : Nat)) := by
  simp [cellsL, hk]
theorem cellsL_ext {G : Nat → Nat → Bool} {n i k i' k' : Nat} (h : ∀ p, p < n → mkN (if p < k then i + 1 else i) (G p) = mkN (if p < k' then i' + 1 else i') (G p)) : cellsL G n i k = cellsL G n i' k' := by
  unfold cellsL
  refine List.map_congr_left fun p hp => ?_
  rw [h p (List.mem_range.1 hp)]
theorem cellsL_next {G : Nat → Nat → Bool} {n i : Nat} : cellsL G n i n = cellsL G n (i + 1) 0 := cellsL_ext fun p hp => by
  rw [if_pos hp, if_neg (by omega)]
theorem cellsL_skip {G : Nat → Nat → Bool} {n i k : Nat} (hg : G k i = false) : cellsL G n i (k + 1) = cellsL G n i k := cellsL_ext fun p hp => by
  by_cases h1 : p < k
  · rw [if_pos (by omega), if_pos h1]
  · by_cases h2 : p = k
    · subst h2
      rw [if_pos (by omega), if_neg (by omega), mkN_or, hg]
      rfl
    · rw [if_neg (by omega), if_neg h1]
theorem cellsL_put {G : Nat → Nat → Bool} {n i k : Nat} {x : Int} (hk : k < n) (hx : ((mkN (i + 1) (G k) : Nat) : Int) = x) : over ((cellsL G n i k).map (AV.int .i64)) k [.int .i64 x] = (cellsL G n i (k + 1)).map (.int .i64) := by
  rw [over_set (by simp [cellsL_len, hk])]
  refine List.ext_getElem? fun p => ?_
  by_cases hp : p < n
  · by_cases h2 : p = k
    · subst h2
      rw [List.getElem?_set_self (by simp [cellsL_len, hk])]
      simp [cellsL, hk, ← hx]
    · rw [List.getElem?_set_ne (Ne.symm h2)]
      have : (p < k + 1) = (p < k) := by rw [eq_iff_iff]; omega
      simp [cellsL, hp, this]
  · rw [List.getElem?_eq_none (by simp [cellsL_len]; omega), List.getElem?_eq_none (by simp [cellsL_len]; omega)]
theorem cellsL_zero {G : Nat → Nat → Bool} {n : Nat} : List.replicate n (AV.int .i64 0) = (cellsL G n 0 0).map (.int .i64) := by
  refine List.ext_getElem? fun p => ?_
  by_cases hp : p < n
  · simp [cellsL, hp, mkN]
  · rw [List.getElem?_eq_none (by simp; omega), List.getElem?_eq_none (by simp [cellsL_len]; omega)]
def eTab (seed seg width : Int) (cells : Option (List Int)) : AV := .agg [.int .i64 seed, .int .i64 seg, .int .i64 width, eI cells]
theorem free_eTab {a b c : Int} {l : Option (List Int)} : Free (eTab a b c l) := free_agg (free_cons_ free_int (free_cons_ free_int (free_cons_ free_int (free_cons_ free_eI free_nil_))))
def allOk (f : Nat → Sy) (w : Nat) : Bool := (List.range w).all fun j => decide (refN (f j) = 0)
theorem allOk_no {f : Nat → Sy} {w i : Nat} (hi : i < w) (h : refN (f i) ≠ 0) : allOk f w = false := by
  unfold allOk
  rw [List.all_eq_false]
  exact ⟨i, List.mem_range.2 hi, by simp [h]⟩
theorem allOk_yes {f : Nat → Sy} {w : Nat} (h : ∀ j, j < w → refN (f j) = 0) : allOk f w = true := by
  unfold allOk
  rw [List.all_eq_true]
  intro j hj
  simp [h j (List.mem_range.1 hj)]
def bitsT (f : Nat → Sy) (p j : Nat) : Bool := (solN (f j)).testBit p
def tabSolO (seed seg width : Int) (n w : Nat) (f : Nat → Sy) : AV :=
  if allOk f w then .tup [eTab seed seg width (some (cellsL (bitsT f) n w 0)), .bool true] else .tup [eTab 0 0 0 none, .bool false]
theorem tabSolO_tup (seed seg width : Int) (n w : Nat) (f : Nat → Sy) : ∃ a b c l q, tabSolO seed seg width n w f = .tup [eTab a b c l, .bool q] ∧ (lI l).length ≤ n := by
  unfold tabSolO
  split
  · exact ⟨_, _, _, _, _, rfl, by show (cellsL _ _ _ _).length ≤ n; rw [cellsL_len]; exact Nat.le_refl _⟩
  · exact ⟨_, _, _, none, _, rfl, by simp [lI]⟩
def tabSolV (seed seg width : Int) (keys : Option (List Str)) (vals : Option (List Int)) : AV :=
  if taskOk seed seg width keys vals then tabSolO seed seg width (nT seg) width.toNat (tabSy seed seg keys vals) else .tup [eTab 0 0 0 none, .bool false]
theorem tabSolV_tup (seed seg width : Int) (keys : Option (List Str)) (vals : Option (List Int)) : ∃ a b c l q, tabSolV seed seg width keys vals = .tup [eTab a b c l, .bool q] ∧ (lI l).length ≤ 72 := by
  unfold tabSolV
  split
  · rename_i h
    obtain ⟨a, b, c, l, q, h1, h2⟩ := tabSolO_tup seed seg width (nT seg) width.toNat (tabSy seed seg keys vals)
    exact ⟨a, b, c, l, q, h1, Nat.le_trans h2 (task_facts h).n2⟩
  · exact ⟨_, _, _, none, _, rfl, by simp [lI]⟩
theorem free_tabSolV {seed seg width : Int} {keys : Option (List Str)} {vals : Option (List Int)} : Free (tabSolV seed seg width keys vals) := by
  obtain ⟨a, b, c, l, q, h, _⟩ := tabSolV_tup seed seg width keys vals
  rw [h]
  exact free_tup (free_cons_ free_eTab (free_cons_ free_bool free_nil_))
/-- A table being built. -/
def TbI (h h' : H) (hy tb : List AV) (cl : List Int) : Prop :=
  h.length + 4 ≤ h'.length ∧ h'.cells h.length = some [.int .i64 0, .int .i64 0, .int .i64 0, .nils] ∧ h'.cells (h.length + 1) = some hy ∧ h'.cells (h.length + 2) = some (cl.map (.int .i64)) ∧ h'.cells (h.length + 3) = some tb
theorem TbI.app {h h' l : H} {hy tb : List AV} {cl : List Int} (hr : TbI h h' hy tb cl) : TbI h (h' ++ l) hy tb cl := by
  obtain ⟨h1, h2, h3, h4, h5⟩ := hr
  exact ⟨by simp; omega, cells_app h2, cells_app h3, cells_app h4, cells_app h5⟩
theorem TbI.put {h h' : H} {hy tb : List AV} {cl cl' : List Int} (hr : TbI h h' hy tb cl) : TbI h (wr h' (h.length + 2) (cl'.map (.int .i64))) hy tb cl' := by
  obtain ⟨h1, h2, h3, h4, h5⟩ := hr
  have hw : ∀ c, c ≠ h.length + 2 → (wr h' (h.length + 2) (cl'.map (.int .i64)))[c]? = h'[c]? := fun c hc => by
    unfold wr
    rw [List.getElem?_set_ne (Ne.symm hc)]
  exact ⟨by simp [wr]; omega, cells_keep (hw _ (by omega)) h2, cells_keep (hw _ (by omega)) h3, cells_wr2 (by omega), cells_keep (hw _ (by omega)) h5⟩
theorem solV_no {s : Sy} (h0 : refN s ≠ 0) : solV s = .tup [eB ⟨0, none⟩, .bool false] := by
  unfold solV solB solq
  rw [if_neg (fun h => h0 h.2), decide_eq_false h0, Bool.and_false]
theorem solV_yes {s : Sy} (hk : okSy s = true) (h0 : refN s = 0) : solV s = .tup [eB ⟨nSy s, some (wordsN (solN s) (mSy s))⟩, .bool true] := by
  unfold solV solB solq
  rw [if_pos ⟨hk, h0⟩, decide_eq_true h0, hk]
  rfl
theorem nSy_tab {seed seg : Int} {keys : Option (List Str)} {vals : Option (List Int)} {b : Nat} : nSy (tabSy seed seg keys vals b) = nT seg := by
  unfold nSy tabSy sysT
  exact Int.toNat_natCast _

set_option maxHeartbeats 2000000 in
theorem c_spec_reSolved (seed seg width : Int) (keys : Option (List Str)) (vals : Option (List Int)) (hk : taskOk seed seg width keys vals = true) : Fn Tryz.prog 60 [.int .i64 seed, eS keys, eI vals, .int .i64 seg, .int .i64 width] (· = tabSolO seed seg width (nT seg) width.toNat (tabSy seed seg keys vals)) := by
  refine Fn.froze_ fun h => ?_
  refine enter (by kernel_rfl) e60 (by kernel_rfl) rfl fun hok => ?_
  simp only [r60, initEnv_5]
  have F := task_facts hk
  have hph := c_spec_peHyper seed keys seg F.s0 F.s1 F.g0 F.g1 (by have := F.kl; omega)
  rw [F.nn] at hph
  have hpl := fun b hb => c_spec_rePlane (nT seg) (mT seg) b (optE (edges seed (lS keys) seg)) vals F.n1 F.n2 F.mm (by rw [lIS_optE, edges_len]; exact F.kl) (by rw [lIS_optE]; exact F.el) (by rw [lIS_optE]; exact F.eb) (by have := F.vl; have := F.kl; omega) F.vb hb
  rw [lIS_optE] at hpl
  have hpl2 : ∀ b : Nat, b < 8 → Fn Tryz.prog 99 [eHy (nT seg) (optE (edges seed (lS keys) seg)), eI vals, .int .i64 b] (· = eSy (tabSy seed seg keys vals b)) := hpl
  have hok := F.ok
  have hns : ∀ b, nSy (tabSy seed seg keys vals b) = nT seg := fun b => nSy_tab
  obtain ⟨w, rfl⟩ : ∃ w : Nat, width = (w : Int) := ⟨width.toNat, by have := F.w0; omega⟩
  have hw1 := F.w1
  have hn2 := F.n2
  have hnn := F.nn
  rw [Int.toNat_natCast]
  clear hpl hk F
  generalize nT seg = n at *
  generalize optE (edges seed (lS keys) seg) = oE at *
  generalize tabSy seed seg keys vals = f at *
  unfold eHy at hph hpl2
  have hrow : List.replicate n (AV.int .i64 0) = (cellsL (bitsT f) n 0 0).map (.int .i64) := cellsL_zero
  have hfl : fillA [AV.int .i64 0, .int .i64 0, .int .i64 0, .nils] [(0, 1, .int .i64 seed), (1, 1, .int .i64 seg), (2, 1, .int .i64 (w : Int)), (3, 1, .sl (h.length + 2) 0 1 n n)] = some [.int .i64 seed, .int .i64 seg, .int .i64 w, .sl (h.length + 2) 0 1 n n] := rfl
  have hfl0 : fillA [AV.int .i64 0, .int .i64 0, .int .i64 0, .nils] [] = some [.int .i64 0, .int .i64 0, .int .i64 0, .nils] := rfl
  (try (simp (disch := first | omega | (simp <;> omega) | fail) only [push_cast, ↓reduceIte, Nat.reduceEqDiff, Nat.reduceAdd, Nat.reduceMul, Nat.reduceSub, Nat.reduceLT, Int.reduceToNat]))
  refine hph.call ?_
  (try (simp (disch := first | omega | (simp <;> omega) | fail) only [push_cast, ↓reduceIte, Nat.reduceEqDiff, Nat.reduceAdd, Nat.reduceMul, Nat.reduceSub, Nat.reduceLT, Int.reduceToNat, hnn, Int.toNat_natCast, hrow, hfl]))
  refine T_for w (fun i e h' => Pins e [(2, eI vals), (4, .int .i64 w), (10, .adr h.length 0), (12, .adr (h.length + 1) 0), (13, .adr (h.length + 3) 0), (14, .int .i64 i)] ∧ TbI h h' [.int .i64 n, eIS oE] [.int .i64 seed, .int .i64 seg, .int .i64 w, .sl (h.length + 2) 0 1 n n] (cellsL (bitsT f) n i 0) ∧ ∀ j, j < i → refN (f j) = 0) ?_ ?_
  · (try (simp (disch := first | omega | (simp <;> omega) | fail) only [push_cast, ↓reduceIte, Nat.reduceEqDiff, Nat.reduceAdd, Nat.reduceMul, Nat.reduceSub, Nat.reduceLT, Int.reduceToNat]))
    all_goals (try exact ⟨⟨by simp, by rw [cells_h0]; rfl, by rw [cells_hk]; rfl, by rw [cells_hk]; rfl, by rw [cells_hk]; rfl⟩, fun j hj => by omega⟩)
  rintro i e h' hi ⟨hp, hr, ha⟩
  refine T_pins hp fun e => ?_
  obtain ⟨r1, r2, r3, r4, r5⟩ := id hr
  (try (simp (disch := first | omega | (simp <;> omega) | fail) only [push_cast, ↓reduceIte, Nat.reduceEqDiff, Nat.reduceAdd, Nat.reduceMul, Nat.reduceSub, Nat.reduceLT, Int.reduceToNat]))
  first | refine goC_split (fun hc => ?_) (fun hc => ?_) | refine cnd_split (fun hc => ?_) (fun hc => ?_)
  · (try (simp only [decide_eq_true_eq, decide_eq_false_iff_not, Bool.not_eq_true', Bool.not_eq_false', Bool.and_eq_true, Bool.or_eq_true, Int.not_lt, Int.not_le] at hc)); (try (simp (disch := first | omega | (simp <;> omega) | fail) only [push_cast, ↓reduceIte, Nat.reduceEqDiff, Nat.reduceAdd, Nat.reduceMul, Nat.reduceSub, Nat.reduceLT, Int.reduceToNat]))
    have hi2 : i < w := by omega
    (try (simp (disch := first | omega | (simp <;> omega) | fail) only [push_cast, ↓reduceIte, Nat.reduceEqDiff, Nat.reduceAdd, Nat.reduceMul, Nat.reduceSub, Nat.reduceLT, Int.reduceToNat, r3]))
    refine (hpl2 i (by omega)).call ?_
    obtain ⟨m, ho⟩ := okE_n (hok i)
    have hhm := ho.hm
    have hmm := ho.mm
    rw [hns i] at hhm
    refine (c_spec_reSolve (f i) m ho (hok i)).call ?_
    by_cases h0 : refN (f i) = 0
    · rw [solV_yes (hok i) h0, ← hmm, hns i]
      have ha' : ∀ j, j < i + 1 → refN (f j) = 0 := fun j hj => by
        by_cases hji : j = i
        · rw [hji]; exact h0
        · exact ha j (by omega)
      have hG : ∀ p, bitsT f p i = (solN (f i)).testBit p := fun _ => rfl
      have hbat := fun k (hk : k < n) => c_spec_biAt ⟨n, some (wordsN (solN (f i)) m)⟩ (solN (f i)) m k rfl (by omega) (by omega)
      have q5 := cells_app (l := [some (.cells [AV.int .i64 (n : Int), eI (some (wordsN (solN (f i)) m))])]) r5
      (try (simp (disch := first | omega | (simp <;> omega) | fail) only [push_cast, ↓reduceIte, Nat.reduceEqDiff, Nat.reduceAdd, Nat.reduceMul, Nat.reduceSub, Nat.reduceLT, Int.reduceToNat, r5]))
      refine T_for n (fun k e h2 => Pins e [(2, eI vals), (4, .int .i64 w), (10, .adr h.length 0), (12, .adr (h.length + 1) 0), (13, .adr (h.length + 3) 0), (14, .int .i64 i), (15, .adr h'.length 0), (47, .int .i64 n), (48, .int .i64 k)] ∧ TbI h h2 [.int .i64 n, eIS oE] [.int .i64 seed, .int .i64 seg, .int .i64 w, .sl (h.length + 2) 0 1 n n] (cellsL (bitsT f) n i k) ∧ h2.cells h'.length = some [.int .i64 n, eI (some (wordsN (solN (f i)) m))]) ?_ ?_
      · (try (simp (disch := first | omega | (simp <;> omega) | fail) only [push_cast, ↓reduceIte, Nat.reduceEqDiff, Nat.reduceAdd, Nat.reduceMul, Nat.reduceSub, Nat.reduceLT, Int.reduceToNat]))
        all_goals (try exact ⟨hr.app, by rw [cells_h0]; rfl⟩)
        all_goals (try exact hr.app)
      rintro k e h2 hk ⟨hp2, hr2, hx⟩
      refine T_pins hp2 fun e => ?_
      obtain ⟨s1, s2, s3, s4, s5⟩ := id hr2
      (try (simp (disch := first | omega | (simp <;> omega) | fail) only [push_cast, ↓reduceIte, Nat.reduceEqDiff, Nat.reduceAdd, Nat.reduceMul, Nat.reduceSub, Nat.reduceLT, Int.reduceToNat]))
      first | refine goC_split (fun hd => ?_) (fun hd => ?_) | refine cnd_split (fun hd => ?_) (fun hd => ?_)
      · (try (simp only [decide_eq_true_eq, decide_eq_false_iff_not, Bool.not_eq_true', Bool.not_eq_false', Bool.and_eq_true, Bool.or_eq_true, Int.not_lt, Int.not_le] at hd)); (try (simp (disch := first | omega | (simp <;> omega) | fail) only [push_cast, ↓reduceIte, Nat.reduceEqDiff, Nat.reduceAdd, Nat.reduceMul, Nat.reduceSub, Nat.reduceLT, Int.reduceToNat]))
        have hk2 : k < n := by omega
        (try (simp (disch := first | omega | (simp <;> omega) | fail) only [push_cast, ↓reduceIte, Nat.reduceEqDiff, Nat.reduceAdd, Nat.reduceMul, Nat.reduceSub, Nat.reduceLT, Int.reduceToNat, hx]))
        refine (hbat k hk2).call ?_
        cases hb : (solN (f i)).testBit k
        · have hsk := cellsL_skip (n := n) (G := bitsT f) (k := k) (i := i) hb
          (try (simp (disch := first | omega | (simp <;> omega) | fail) only [push_cast, ↓reduceIte, Nat.reduceEqDiff, Nat.reduceAdd, Nat.reduceMul, Nat.reduceSub, Nat.reduceLT, Int.reduceToNat]))
          all_goals (try (rw [hsk]; exact ⟨hr2, hx⟩))
        · have hgk := cellsL_get (G := bitsT f) (i := i) hk2
          obtain ⟨T, hT⟩ : ∃ T : Nat, T = 2 ^ i := ⟨_, rfl⟩
          obtain ⟨v, hv⟩ : ∃ v : Nat, v = mkN i (bitsT f k) := ⟨_, rfl⟩
          have hvl : v < T := by rw [hv, hT]; exact mkN_lt
          have hTl : T ≤ 256 := by
            rw [hT]
            have : 2 ^ i ≤ 2 ^ 8 := Nat.pow_le_pow_right (by decide) (by omega)
            exact this
          have hput := cellsL_put (G := bitsT f) (i := i) (x := (v : Int) + (T : Int)) hk2 (by
            rw [mkN_add, hG, hb, if_pos rfl, ← hv, ← hT]
            omega)
          have htop := c_spec_reTop i (by omega) (T : Int) (by rw [hT])
          rw [← hv] at hgk
          have hfin : TbI h (wr h2 (h.length + 2) ((cellsL (bitsT f) n i (k + 1)).map (.int .i64))) [.int .i64 n, eIS oE] [.int .i64 seed, .int .i64 seg, .int .i64 w, .sl (h.length + 2) 0 1 n n] (cellsL (bitsT f) n i (k + 1)) ∧ (wr h2 (h.length + 2) ((cellsL (bitsT f) n i (k + 1)).map (.int .i64))).cells h'.length = some [.int .i64 n, eI (some (wordsN (solN (f i)) m))] := ⟨hr2.put, cells_keep (by unfold wr; rw [List.getElem?_set_ne (by omega)]) hx⟩
          have hlc : ((cellsL (bitsT f) n i k).map (AV.int .i64)).length = n := by simp [cellsL_len]
          clear hT hv
          generalize (cellsL (bitsT f) n i (k + 1)).map (AV.int .i64) = C2 at *
          generalize (cellsL (bitsT f) n i k).map (AV.int .i64) = C1 at *
          have hpm : (h.length ≤ h.length + 2) = True := by simp
          (try (simp (disch := first | omega | (simp <;> omega) | fail) only [push_cast, ↓reduceIte, Nat.reduceEqDiff, Nat.reduceAdd, Nat.reduceMul, Nat.reduceSub, Nat.reduceLT, Int.reduceToNat, s5, s4, hgk, hlc, reads, List.mem_cons, List.mem_append, List.not_mem_nil, nat_ff, or_self, or_false, false_or, not_false_eq_true]))
          repeat' (with_reducible refine And.intro ?_ ?_)
          all_goals
            refine htop.call ?_
            (try (simp (disch := first | omega | (simp <;> omega) | fail) only [push_cast, ↓reduceIte, Nat.reduceEqDiff, Nat.reduceAdd, Nat.reduceMul, Nat.reduceSub, Nat.reduceLT, Int.reduceToNat, s5, s4, hgk, hput, hlc, hpm, reads, List.mem_cons, List.mem_append, List.not_mem_nil, nat_ff, or_self, or_false, false_or, not_false_eq_true]))
          all_goals (try exact hfin)
      · (try (simp only [decide_eq_true_eq, decide_eq_false_iff_not, Bool.not_eq_true', Bool.not_eq_false', Bool.and_eq_true, Bool.or_eq_true, Int.not_lt, Int.not_le] at hd)); (try (simp (disch := first | omega | (simp <;> omega) | fail) only [push_cast, ↓reduceIte, Nat.reduceEqDiff, Nat.reduceAdd, Nat.reduceMul, Nat.reduceSub, Nat.reduceLT, Int.reduceToNat]))
        have hke : k = n := by omega
        subst hke
        rw [cellsL_next] at hr2
        (try (simp (disch := first | omega | (simp <;> omega) | fail) only [push_cast, ↓reduceIte, Nat.reduceEqDiff, Nat.reduceAdd, Nat.reduceMul, Nat.reduceSub, Nat.reduceLT, Int.reduceToNat]))
        all_goals (try exact ⟨hr2, ha'⟩)
    · rw [solV_no h0]
      have hno : tabSolO seed seg w n w f = .tup [eTab 0 0 0 none, .bool false] := by
        unfold tabSolO
        rw [allOk_no hi2 h0]
        rfl
      have q2 := cells_app (l := [some (.cells [AV.int .i64 0, .nils])]) r2
      have hw := cells_wr2 (h := h' ++ [some (.cells [AV.int .i64 0, eI none])]) (b := h.length) (by simp; omega) (cs := [AV.int .i64 0, .int .i64 0, .int .i64 0, .nils])
      have hpm : (h.length ≤ h.length) = True := by simp
      rw [hno]
      (try (simp (disch := first | omega | (simp <;> omega) | fail) only [push_cast, ↓reduceIte, Nat.reduceEqDiff, Nat.reduceAdd, Nat.reduceMul, Nat.reduceSub, Nat.reduceLT, Int.reduceToNat, r2, hfl0, hw, hpm]))
      exact ⟨_, .free (free_tup (free_cons_ (free_eTab (a := 0) (b := 0) (c := 0) (l := none)) (free_cons_ free_bool free_nil_))), rfl⟩
  · (try (simp only [decide_eq_true_eq, decide_eq_false_iff_not, Bool.not_eq_true', Bool.not_eq_false', Bool.and_eq_true, Bool.or_eq_true, Int.not_lt, Int.not_le] at hc)); (try (simp (disch := first | omega | (simp <;> omega) | fail) only [push_cast, ↓reduceIte, Nat.reduceEqDiff, Nat.reduceAdd, Nat.reduceMul, Nat.reduceSub, Nat.reduceLT, Int.reduceToNat]))
    have hie : i = w := by omega
    subst hie
    have hw := cells_wr2 (h := h') (b := h.length) (by omega) (cs := [AV.int .i64 seed, .int .i64 seg, .int .i64 (i : Int), .sl (h.length + 2) 0 1 n n])
    have hpm : (h.length ≤ h.length) = True := by simp
    have hyes : tabSolO seed seg i n i f = .tup [eTab seed seg i (some (cellsL (bitsT f) n i 0)), .bool true] := by
      unfold tabSolO
      rw [allOk_yes ha]
      rfl
    rw [hyes]
    (try (simp (disch := first | omega | (simp <;> omega) | fail) only [push_cast, ↓reduceIte, Nat.reduceEqDiff, Nat.reduceAdd, Nat.reduceMul, Nat.reduceSub, Nat.reduceLT, Int.reduceToNat, r2, r5, hw, hpm]))
    refine ⟨_, .tup (ts := [eTab seed seg i (some (cellsL (bitsT f) n i 0)), .bool true]) rfl (fun k y t hy ht => ?_), rfl⟩
    rcases k with _ | _ | k
    · simp at hy ht
      subst hy ht
      refine .agg rfl fun k y t hy ht => ?_
      rcases k with _ | _ | _ | _ | k
      · simp at hy ht
        subst hy ht
        exact .free free_int
      · simp at hy ht
        subst hy ht
        exact .free free_int
      · simp at hy ht
        subst hy ht
        exact .free free_int
      · simp at hy ht
        subst hy ht
        show Vw _ _ _ (.ro 1 ((cellsL (bitsT f) n i 0).map (.int .i64)) (cellsL (bitsT f) n i 0).length)
        rw [cellsL_len]
        refine vw_all (n := h.length) (b := h.length + 2) (sz := 1) (len := n) (cs := (cellsL (bitsT f) n i 0).map (.int .i64)) (by omega) ?_ (by simp [cellsL_len]) (one_map fun _ => rfl) (free_map_ fun _ => free_int)
        rw [cells_eq]
        unfold wr
        rw [List.getElem?_set_ne (by omega), ← cells_eq]
        exact r4
      · simp at hy
    · simp at hy ht
      subst hy ht
      exact .free free_bool
    · simp at hy

set_option maxHeartbeats 2000000 in
theorem c_impl_TableBySolving_o (seed seg width : Int) (keys : Option (List Str)) (vals : Option (List Int)) : FnO Tryz.prog 31 [.int .i64 seed, eS keys, eI vals, .int .i64 seg, .int .i64 width] (· = tabSolV seed seg width keys vals) := by
  intro h
  refine enter (by kernel_rfl) e31 (by kernel_rfl) rfl fun hok => ?_
  simp only [r31, initEnv_5]
  have hfl0 : fillA [AV.int .i64 0, .int .i64 0, .int .i64 0, .nils] [] = some [.int .i64 0, .int .i64 0, .int .i64 0, .nils] := rfl
  have hnone : ∀ g : H, ∃ t, Ow g [.tup [.agg [.int .i64 0, .int .i64 0, .int .i64 0, .nils], .bool false]] [t] (fun c => h.length ≤ c) ∧ t = .tup [eTab 0 0 0 none, .bool false] := fun g => ⟨_, (Ow.two (F := fun _ => False) (F' := fun _ => False) (Ow.aggOf (.atom rfl (.atom rfl (.atom rfl (.atom rfl .nil))))) (.atom rfl .nil) (fun _ h => h.elim) (fun _ h => h.elim)).tupOf, rfl⟩
  (try (simp (disch := first | omega | (simp <;> omega) | fail) only [push_cast, ↓reduceIte, Nat.reduceEqDiff, Nat.reduceAdd, Nat.reduceMul, Nat.reduceSub, Nat.reduceLT, Int.reduceToNat]))
  refine (c_impl_valuesOk _ _ _ _ _).call ?_
  unfold tabSolV
  cases hk : taskOk seed seg width keys vals
  · (try (simp (disch := first | omega | (simp <;> omega) | fail) only [push_cast, ↓reduceIte, Nat.reduceEqDiff, Nat.reduceAdd, Nat.reduceMul, Nat.reduceSub, Nat.reduceLT, Int.reduceToNat, hfl0]))
    all_goals (try exact hnone _)
  have F := task_facts hk
  have hph := c_impl_hyper seed keys seg F.s0 F.s1 F.g0 F.g1 (by have := F.kl; omega)
  rw [F.nn] at hph
  have hpl := fun b hb => c_impl_bitSystem (nT seg) (mT seg) b (optE (edges seed (lS keys) seg)) vals F.n1 F.n2 F.mm (by rw [lIS_optE, edges_len]; exact F.kl) (by rw [lIS_optE]; exact F.eb) (by have := F.vl; have := F.kl; omega) F.vb hb
  rw [lIS_optE] at hpl
  have hpl2 : ∀ b : Nat, b < 8 → Fn Tryz.prog 88 [eHy (nT seg) (optE (edges seed (lS keys) seg)), eI vals, .int .i64 b] (· = eSy (tabSy seed seg keys vals b)) := hpl
  have hok := F.ok
  have hns : ∀ b, nSy (tabSy seed seg keys vals b) = nT seg := fun b => nSy_tab
  obtain ⟨w, rfl⟩ : ∃ w : Nat, width = (w : Int) := ⟨width.toNat, by have := F.w0; omega⟩
  have hw1 := F.w1
  have hn2 := F.n2
  rw [Int.toNat_natCast]
  clear hpl hk F
  generalize nT seg = n at *
  generalize optE (edges seed (lS keys) seg) = oE at *
  generalize tabSy seed seg keys vals = f at *
  unfold eHy at hph hpl2
  have hrow : List.replicate n (AV.int .i64 0) = (cellsL (bitsT f) n 0 0).map (.int .i64) := cellsL_zero
  have hfl : fillA [AV.int .i64 0, .int .i64 0, .int .i64 0, .nils] [(0, 1, .int .i64 seed), (1, 1, .int .i64 seg), (2, 1, .int .i64 (w : Int)), (3, 1, .sl (h.length + 2) 0 1 n n)] = some [.int .i64 seed, .int .i64 seg, .int .i64 w, .sl (h.length + 2) 0 1 n n] := rfl
  (try (simp (disch := first | omega | (simp <;> omega) | fail) only [push_cast, ↓reduceIte, Nat.reduceEqDiff, Nat.reduceAdd, Nat.reduceMul, Nat.reduceSub, Nat.reduceLT, Int.reduceToNat]))
  refine hph.call ?_
  (try (simp (disch := first | omega | (simp <;> omega) | fail) only [push_cast, ↓reduceIte, Nat.reduceEqDiff, Nat.reduceAdd, Nat.reduceMul, Nat.reduceSub, Nat.reduceLT, Int.reduceToNat, Int.toNat_natCast, hrow, hfl]))
  refine T_for w (fun i e h' => Pins e [(2, eI vals), (10, .adr h.length 0), (12, .adr (h.length + 1) 0), (13, .adr (h.length + 3) 0), (37, .int .i64 w), (38, .int .i64 i)] ∧ TbI h h' [.int .i64 n, eIS oE] [.int .i64 seed, .int .i64 seg, .int .i64 w, .sl (h.length + 2) 0 1 n n] (cellsL (bitsT f) n i 0) ∧ ∀ j, j < i → refN (f j) = 0) ?_ ?_
  · (try (simp (disch := first | omega | (simp <;> omega) | fail) only [push_cast, ↓reduceIte, Nat.reduceEqDiff, Nat.reduceAdd, Nat.reduceMul, Nat.reduceSub, Nat.reduceLT, Int.reduceToNat]))
    all_goals (try exact ⟨⟨by simp, by rw [cells_h0]; rfl, by rw [cells_hk]; rfl, by rw [cells_hk]; rfl, by rw [cells_hk]; rfl⟩, fun j hj => by omega⟩)
  rintro i e h' hi ⟨hp, hr, ha⟩
  refine T_pins hp fun e => ?_
  obtain ⟨r1, r2, r3, r4, r5⟩ := id hr
  (try (simp (disch := first | omega | (simp <;> omega) | fail) only [push_cast, ↓reduceIte, Nat.reduceEqDiff, Nat.reduceAdd, Nat.reduceMul, Nat.reduceSub, Nat.reduceLT, Int.reduceToNat]))
  first | refine goC_split (fun hc => ?_) (fun hc => ?_) | refine cnd_split (fun hc => ?_) (fun hc => ?_)
  · (try (simp only [decide_eq_true_eq, decide_eq_false_iff_not, Bool.not_eq_true', Bool.not_eq_false', Bool.and_eq_true, Bool.or_eq_true, Int.not_lt, Int.not_le] at hc)); (try (simp (disch := first | omega | (simp <;> omega) | fail) only [push_cast, ↓reduceIte, Nat.reduceEqDiff, Nat.reduceAdd, Nat.reduceMul, Nat.reduceSub, Nat.reduceLT, Int.reduceToNat]))
    have hi2 : i < w := by omega
    (try (simp (disch := first | omega | (simp <;> omega) | fail) only [push_cast, ↓reduceIte, Nat.reduceEqDiff, Nat.reduceAdd, Nat.reduceMul, Nat.reduceSub, Nat.reduceLT, Int.reduceToNat, r3]))
    refine (hpl2 i (by omega)).call ?_
    obtain ⟨m, ho⟩ := okE_n (hok i)
    have hhm := ho.hm
    rw [hns i] at hhm
    refine (c_impl_solve_o (f i) m ho).fn.call ?_
    rw [hns i]
    by_cases h0 : refN (f i) = 0
    · rw [decide_eq_true h0]
      have ha' : ∀ j, j < i + 1 → refN (f j) = 0 := fun j hj => by
        by_cases hji : j = i
        · rw [hji]; exact h0
        · exact ha j (by omega)
      have hG : ∀ p, bitsT f p i = (solN (f i)).testBit p := fun _ => rfl
      have hbat := fun k (hk : k < n) => c_impl_Bits_at (some (wordsN (solN (f i)) m)) (solN (f i)) m k [.int .i64 (n : Int), eI (some (wordsN (solN (f i)) m))] 0 rfl rfl (by omega) (by omega)
      have q5 := cells_app (l := [some (.cells [AV.int .i64 (n : Int), eI (some (wordsN (solN (f i)) m))])]) r5
      have hfr : ∀ c ∈ [AV.int .i64 (n : Int), eI (some (wordsN (solN (f i)) m))], Free c := free_cons_ free_int (free_cons_ free_eI free_nil_)
      (try (simp (disch := first | omega | (simp <;> omega) | fail) only [push_cast, ↓reduceIte, Nat.reduceEqDiff, Nat.reduceAdd, Nat.reduceMul, Nat.reduceSub, Nat.reduceLT, Int.reduceToNat, r5]))
      refine T_for n (fun k e h2 => Pins e [(2, eI vals), (10, .adr h.length 0), (12, .adr (h.length + 1) 0), (13, .adr (h.length + 3) 0), (14, .int .i64 i), (15, .adr h'.length 0), (37, .int .i64 w), (38, .int .i64 i), (54, .int .i64 n), (55, .int .i64 k)] ∧ TbI h h2 [.int .i64 n, eIS oE] [.int .i64 seed, .int .i64 seg, .int .i64 w, .sl (h.length + 2) 0 1 n n] (cellsL (bitsT f) n i k) ∧ h2.cells h'.length = some [.int .i64 n, eI (some (wordsN (solN (f i)) m))]) ?_ ?_
      · (try (simp (disch := first | omega | (simp <;> omega) | fail) only [push_cast, ↓reduceIte, Nat.reduceEqDiff, Nat.reduceAdd, Nat.reduceMul, Nat.reduceSub, Nat.reduceLT, Int.reduceToNat]))
        all_goals (try exact ⟨hr.app, by rw [cells_h0]; rfl⟩)
        all_goals (try exact hr.app)
      rintro k e h2 hk ⟨hp2, hr2, hx⟩
      refine T_pins hp2 fun e => ?_
      obtain ⟨s1, s2, s3, s4, s5⟩ := id hr2
      (try (simp (disch := first | omega | (simp <;> omega) | fail) only [push_cast, ↓reduceIte, Nat.reduceEqDiff, Nat.reduceAdd, Nat.reduceMul, Nat.reduceSub, Nat.reduceLT, Int.reduceToNat]))
      first | refine goC_split (fun hd => ?_) (fun hd => ?_) | refine cnd_split (fun hd => ?_) (fun hd => ?_)
      · (try (simp only [decide_eq_true_eq, decide_eq_false_iff_not, Bool.not_eq_true', Bool.not_eq_false', Bool.and_eq_true, Bool.or_eq_true, Int.not_lt, Int.not_le] at hd)); (try (simp (disch := first | omega | (simp <;> omega) | fail) only [push_cast, ↓reduceIte, Nat.reduceEqDiff, Nat.reduceAdd, Nat.reduceMul, Nat.reduceSub, Nat.reduceLT, Int.reduceToNat]))
        have hk2 : k < n := by omega
        (try (simp (disch := first | omega | (simp <;> omega) | fail) only [push_cast, ↓reduceIte, Nat.reduceEqDiff, Nat.reduceAdd, Nat.reduceMul, Nat.reduceSub, Nat.reduceLT, Int.reduceToNat]))
        refine (hbat k hk2).lendL (.adr hx hfr (.free free_int .nil)) own_bool ?_
        cases hb : (solN (f i)).testBit k
        · have hsk := cellsL_skip (n := n) (G := bitsT f) (k := k) (i := i) hb
          (try (simp (disch := first | omega | (simp <;> omega) | fail) only [push_cast, ↓reduceIte, Nat.reduceEqDiff, Nat.reduceAdd, Nat.reduceMul, Nat.reduceSub, Nat.reduceLT, Int.reduceToNat]))
          all_goals (try (rw [hsk]; exact ⟨hr2, hx⟩))
        · have hgk := cellsL_get (G := bitsT f) (i := i) hk2
          obtain ⟨T, hT⟩ : ∃ T : Nat, T = 2 ^ i := ⟨_, rfl⟩
          obtain ⟨v, hv⟩ : ∃ v : Nat, v = mkN i (bitsT f k) := ⟨_, rfl⟩
          have hvl : v < T := by rw [hv, hT]; exact mkN_lt
          have hTl : T ≤ 256 := by
            rw [hT]
            have : 2 ^ i ≤ 2 ^ 8 := Nat.pow_le_pow_right (by decide) (by omega)
            exact this
          have hput := cellsL_put (G := bitsT f) (i := i) (x := ((v ||| T : Nat) : Int)) hk2 (by
            rw [mkN_or, hG, hb, if_pos rfl, ← hv, ← hT])
          have hsh := shl16 (j := i) (by omega)
          rw [← hT] at hsh
          have hor := bitsI_or (x := v) (y := T) (by omega) (by omega)
          rw [← hv] at hgk
          have hfin : TbI h (wr h2 (h.length + 2) ((cellsL (bitsT f) n i (k + 1)).map (.int .i64))) [.int .i64 n, eIS oE] [.int .i64 seed, .int .i64 seg, .int .i64 w, .sl (h.length + 2) 0 1 n n] (cellsL (bitsT f) n i (k + 1)) ∧ (wr h2 (h.length + 2) ((cellsL (bitsT f) n i (k + 1)).map (.int .i64))).cells h'.length = some [.int .i64 n, eI (some (wordsN (solN (f i)) m))] := ⟨hr2.put, cells_keep (by unfold wr; rw [List.getElem?_set_ne (by omega)]) hx⟩
          have hlc : ((cellsL (bitsT f) n i k).map (AV.int .i64)).length = n := by simp [cellsL_len]
          clear hT hv
          generalize (cellsL (bitsT f) n i (k + 1)).map (AV.int .i64) = C2 at *
          generalize (cellsL (bitsT f) n i k).map (AV.int .i64) = C1 at *
          generalize (v ||| T : Nat) = V at *
          have hpm : (h.length ≤ h.length + 2) = True := by simp
          (try (simp (disch := first | omega | (simp <;> omega) | fail) only [push_cast, ↓reduceIte, Nat.reduceEqDiff, Nat.reduceAdd, Nat.reduceMul, Nat.reduceSub, Nat.reduceLT, Int.reduceToNat, s5, s4, hgk, hlc, hsh, hor, hput, hpm, reads, List.mem_cons, List.mem_append, List.not_mem_nil, nat_ff, or_self, or_false, false_or, not_false_eq_true]))
          all_goals (try exact hfin)
      · (try (simp only [decide_eq_true_eq, decide_eq_false_iff_not, Bool.not_eq_true', Bool.not_eq_false', Bool.and_eq_true, Bool.or_eq_true, Int.not_lt, Int.not_le] at hd)); (try (simp (disch := first | omega | (simp <;> omega) | fail) only [push_cast, ↓reduceIte, Nat.reduceEqDiff, Nat.reduceAdd, Nat.reduceMul, Nat.reduceSub, Nat.reduceLT, Int.reduceToNat]))
        have hke : k = n := by omega
        subst hke
        rw [cellsL_next] at hr2
        (try (simp (disch := first | omega | (simp <;> omega) | fail) only [push_cast, ↓reduceIte, Nat.reduceEqDiff, Nat.reduceAdd, Nat.reduceMul, Nat.reduceSub, Nat.reduceLT, Int.reduceToNat]))
        all_goals (try exact ⟨hr2, ha'⟩)
    · rw [decide_eq_false h0]
      have hno : tabSolO seed seg w n w f = .tup [eTab 0 0 0 none, .bool false] := by
        unfold tabSolO
        rw [allOk_no hi2 h0]
        rfl
      have q2 := cells_app (l := [some (.cells [AV.int .i64 (n : Int), eI (some (wordsN (solN (f i)) m))])]) r2
      have hw := cells_wr2 (h := h' ++ [some (.cells [AV.int .i64 (n : Int), eI (some (wordsN (solN (f i)) m))])]) (b := h.length) (by simp; omega) (cs := [AV.int .i64 0, .int .i64 0, .int .i64 0, .nils])
      have hpm : (h.length ≤ h.length) = True := by simp
      rw [hno]
      (try (simp (disch := first | omega | (simp <;> omega) | fail) only [push_cast, ↓reduceIte, Nat.reduceEqDiff, Nat.reduceAdd, Nat.reduceMul, Nat.reduceSub, Nat.reduceLT, Int.reduceToNat, r2, hfl0, hw, hpm]))
      all_goals (try exact hnone _)
  · (try (simp only [decide_eq_true_eq, decide_eq_false_iff_not, Bool.not_eq_true', Bool.not_eq_false', Bool.and_eq_true, Bool.or_eq_true, Int.not_lt, Int.not_le] at hc)); (try (simp (disch := first | omega | (simp <;> omega) | fail) only [push_cast, ↓reduceIte, Nat.reduceEqDiff, Nat.reduceAdd, Nat.reduceMul, Nat.reduceSub, Nat.reduceLT, Int.reduceToNat]))
    have hie : i = w := by omega
    subst hie
    have hw := cells_wr2 (h := h') (b := h.length) (by omega) (cs := [AV.int .i64 seed, .int .i64 seg, .int .i64 (i : Int), .sl (h.length + 2) 0 1 n n])
    have hpm : (h.length ≤ h.length) = True := by simp
    have hyes : tabSolO seed seg i n i f = .tup [eTab seed seg i (some (cellsL (bitsT f) n i 0)), .bool true] := by
      unfold tabSolO
      rw [allOk_yes ha]
      rfl
    rw [hyes]
    (try (simp (disch := first | omega | (simp <;> omega) | fail) only [push_cast, ↓reduceIte, Nat.reduceEqDiff, Nat.reduceAdd, Nat.reduceMul, Nat.reduceSub, Nat.reduceLT, Int.reduceToNat, r2, r5, hw, hpm]))
    refine ⟨_, (Ow.two (F := fun c => h.length ≤ c) (F' := fun _ => False) (Ow.aggOf (.atom rfl (.atom rfl (.atom rfl (ow_map (f := AV.int .i64) (l := cellsL (bitsT f) n i 0) (fun _ => rfl) ?_ cellsL_len ?_))))) (.atom rfl .nil) (fun c hc => hc) (fun _ h => h.elim)).tupOf, ?_⟩
    · rw [cells_eq]
      unfold wr
      rw [List.getElem?_set_ne (by omega), ← cells_eq]
      exact r4
    · omega
    · simp [eTab, eI, cellsL_len]

end Go.Proofs.YtjfgmimgmapeeaaGreat.M
