/-
  What the functions return.
-/
import Derived.Test.YtidhhiecgehgfaaGreatFzd
import Derived.Test.YtidhhiecgehgfaaGreatCy
namespace Go.Proofs.YtidhhiecgehgfaaGreat.M
open Go Go.RowKit
set_option linter.unusedVariables false
set_option linter.unusedSimpArgs false
set_option maxRecDepth 4000

theorem c_laws_szIntS (a : Option (List Int)) (left : Int) (hl0 : 0 ≤ left) (hleft : left ≤ 1048576) : Fn Tryz.prog 87 [eI a, .int .i64 left] (· = .int .i64 (szv left (lI a).length)) := by
  refine Fn.of free_int fun h => ?_
  refine enter (by kernel_rfl) e87 (by kernel_rfl) rfl fun hok => ?_
  simp only [r87, initEnv_2]
  have hlen := ok_eI (okV_0 hok)
  (try (simp (disch := first | omega | (simp <;> omega) | fail) only [push_cast, ↓reduceIte, Nat.reduceEqDiff, Nat.reduceAdd, Nat.reduceMul, Nat.reduceSub, Nat.reduceLT, Int.reduceToNat]))
  first | refine goC_split (fun hc => ?_) (fun hc => ?_) | refine cnd_split (fun hc => ?_) (fun hc => ?_)
  · (try (simp only [decide_eq_true_eq, decide_eq_false_iff_not, Bool.not_eq_true', Bool.not_eq_false', Bool.and_eq_true, Bool.or_eq_true, Int.not_lt, Int.not_le] at hc)); (try (simp (disch := first | omega | (simp <;> omega) | fail) only [push_cast, ↓reduceIte, Nat.reduceEqDiff, Nat.reduceAdd, Nat.reduceMul, Nat.reduceSub, Nat.reduceLT, Int.reduceToNat]))
    rw [szv, if_neg (by omega)]
  · (try (simp only [decide_eq_true_eq, decide_eq_false_iff_not, Bool.not_eq_true', Bool.not_eq_false', Bool.and_eq_true, Bool.or_eq_true, Int.not_lt, Int.not_le] at hc)); (try (simp (disch := first | omega | (simp <;> omega) | fail) only [push_cast, ↓reduceIte, Nat.reduceEqDiff, Nat.reduceAdd, Nat.reduceMul, Nat.reduceSub, Nat.reduceLT, Int.reduceToNat]))
    rw [szv, if_pos (by omega)]

theorem c_laws_szBits (b : Bt) (left : Int) (hl0 : 0 ≤ left) (hleft : left ≤ 1048576) : Fn Tryz.prog 52 [eB b, .int .i64 left] (· = .int .i64 (szv left (lI b.words).length)) := by
  refine Fn.of free_int fun h => ?_
  refine enter (by kernel_rfl) e52 (by kernel_rfl) rfl fun hok => ?_
  simp only [r52, initEnv_2]
  (try (simp (disch := first | omega | (simp <;> omega) | fail) only [push_cast, ↓reduceIte, Nat.reduceEqDiff, Nat.reduceAdd, Nat.reduceMul, Nat.reduceSub, Nat.reduceLT, Int.reduceToNat]))
  refine (c_laws_szIntS _ _ hl0 hleft).call ?_
  (try (simp (disch := first | omega | (simp <;> omega) | fail) only [push_cast, ↓reduceIte, Nat.reduceEqDiff, Nat.reduceAdd, Nat.reduceMul, Nat.reduceSub, Nat.reduceLT, Int.reduceToNat]))
  first | refine goC_split (fun hc => ?_) (fun hc => ?_) | refine cnd_split (fun hc => ?_) (fun hc => ?_)
  · (try (simp only [decide_eq_true_eq, decide_eq_false_iff_not, Bool.not_eq_true', Bool.not_eq_false', Bool.and_eq_true, Bool.or_eq_true, Int.not_lt, Int.not_le] at hc)); (try (simp (disch := first | omega | (simp <;> omega) | fail) only [push_cast, ↓reduceIte, Nat.reduceEqDiff, Nat.reduceAdd, Nat.reduceMul, Nat.reduceSub, Nat.reduceLT, Int.reduceToNat]))
    unfold szv at hc ⊢
    split at hc
    · omega
    · rename_i hn
      rw [if_neg hn]
  · (try (simp only [decide_eq_true_eq, decide_eq_false_iff_not, Bool.not_eq_true', Bool.not_eq_false', Bool.and_eq_true, Bool.or_eq_true, Int.not_lt, Int.not_le] at hc)); (try (simp (disch := first | omega | (simp <;> omega) | fail) only [push_cast, ↓reduceIte, Nat.reduceEqDiff, Nat.reduceAdd, Nat.reduceMul, Nat.reduceSub, Nat.reduceLT, Int.reduceToNat]))

theorem c_laws_szTrie (t : Tr) (left : Int) (hl0 : 0 ≤ left) (hleft : left ≤ 1048576) (hlab : t.lab.length ≤ 9223372036854775807) : Fn Tryz.prog 12 [eTr t, .int .i64 left] (· = .int .i64 (szv left ((lI t.sh.words).length + (lI t.en.words).length + t.lab.length))) := by
  refine Fn.of free_int fun h => ?_
  refine enter (by kernel_rfl) e12 (by kernel_rfl) rfl fun hok => ?_
  simp only [r12, initEnv_2]
  (try (simp (disch := first | omega | (simp <;> omega) | fail) only [push_cast, ↓reduceIte, Nat.reduceEqDiff, Nat.reduceAdd, Nat.reduceMul, Nat.reduceSub, Nat.reduceLT, Int.reduceToNat]))
  refine (c_laws_szBits t.sh left hl0 hleft).call ?_
  (try (simp (disch := first | omega | (simp <;> omega) | fail) only [push_cast, ↓reduceIte, Nat.reduceEqDiff, Nat.reduceAdd, Nat.reduceMul, Nat.reduceSub, Nat.reduceLT, Int.reduceToNat]))
  first | refine goC_split (fun hc => ?_) (fun hc => ?_) | refine cnd_split (fun hc => ?_) (fun hc => ?_)
  · (try (simp only [decide_eq_true_eq, decide_eq_false_iff_not, Bool.not_eq_true', Bool.not_eq_false', Bool.and_eq_true, Bool.or_eq_true, Int.not_lt, Int.not_le] at hc)); (try (simp (disch := first | omega | (simp <;> omega) | fail) only [push_cast, ↓reduceIte, Nat.reduceEqDiff, Nat.reduceAdd, Nat.reduceMul, Nat.reduceSub, Nat.reduceLT, Int.reduceToNat]))
    unfold szv at hc ⊢
    split at hc
    · omega
    · rw [if_neg (by omega)]
  (try (simp only [decide_eq_true_eq, decide_eq_false_iff_not, Bool.not_eq_true', Bool.not_eq_false', Bool.and_eq_true, Bool.or_eq_true, Int.not_lt, Int.not_le] at hc)); (try (simp (disch := first | omega | (simp <;> omega) | fail) only [push_cast, ↓reduceIte, Nat.reduceEqDiff, Nat.reduceAdd, Nat.reduceMul, Nat.reduceSub, Nat.reduceLT, Int.reduceToNat]))
  refine (c_laws_szBits t.en _ hc (by unfold szv; split <;> omega)).call ?_
  (try (simp (disch := first | omega | (simp <;> omega) | fail) only [push_cast, ↓reduceIte, Nat.reduceEqDiff, Nat.reduceAdd, Nat.reduceMul, Nat.reduceSub, Nat.reduceLT, Int.reduceToNat]))
  first | refine goC_split (fun hd => ?_) (fun hd => ?_) | refine cnd_split (fun hd => ?_) (fun hd => ?_)
  · (try (simp only [decide_eq_true_eq, decide_eq_false_iff_not, Bool.not_eq_true', Bool.not_eq_false', Bool.and_eq_true, Bool.or_eq_true, Int.not_lt, Int.not_le] at hd)); (try (simp (disch := first | omega | (simp <;> omega) | fail) only [push_cast, ↓reduceIte, Nat.reduceEqDiff, Nat.reduceAdd, Nat.reduceMul, Nat.reduceSub, Nat.reduceLT, Int.reduceToNat]))
    unfold szv at hc hd ⊢
    split at hc
    · split at hd
      · omega
      · rw [if_neg (by omega)]
    · omega
  (try (simp only [decide_eq_true_eq, decide_eq_false_iff_not, Bool.not_eq_true', Bool.not_eq_false', Bool.and_eq_true, Bool.or_eq_true, Int.not_lt, Int.not_le] at hd)); (try (simp (disch := first | omega | (simp <;> omega) | fail) only [push_cast, ↓reduceIte, Nat.reduceEqDiff, Nat.reduceAdd, Nat.reduceMul, Nat.reduceSub, Nat.reduceLT, Int.reduceToNat]))
  have hv2 : szv (szv left (lI t.sh.words).length) (lI t.en.words).length = left - (lI t.sh.words).length - (lI t.en.words).length ∧ (lI t.sh.words).length + (lI t.en.words).length ≤ left := by
    unfold szv at hc hd ⊢
    split at hc
    · rename_i h1
      rw [if_pos h1] at hd ⊢
      split at hd
      · rename_i h2
        rw [if_pos h2]
        omega
      · omega
    · omega
  rw [hv2.1]
  clear hd hc
  (try (simp (disch := first | omega | (simp <;> omega) | fail) only [push_cast, ↓reduceIte, Nat.reduceEqDiff, Nat.reduceAdd, Nat.reduceMul, Nat.reduceSub, Nat.reduceLT, Int.reduceToNat]))
  first | refine goC_split (fun hd => ?_) (fun hd => ?_) | refine cnd_split (fun hd => ?_) (fun hd => ?_)
  · (try (simp only [decide_eq_true_eq, decide_eq_false_iff_not, Bool.not_eq_true', Bool.not_eq_false', Bool.and_eq_true, Bool.or_eq_true, Int.not_lt, Int.not_le] at hd)); (try (simp (disch := first | omega | (simp <;> omega) | fail) only [push_cast, ↓reduceIte, Nat.reduceEqDiff, Nat.reduceAdd, Nat.reduceMul, Nat.reduceSub, Nat.reduceLT, Int.reduceToNat]))
    unfold szv
    rw [if_neg (by omega)]
  · (try (simp only [decide_eq_true_eq, decide_eq_false_iff_not, Bool.not_eq_true', Bool.not_eq_false', Bool.and_eq_true, Bool.or_eq_true, Int.not_lt, Int.not_le] at hd)); (try (simp (disch := first | omega | (simp <;> omega) | fail) only [push_cast, ↓reduceIte, Nat.reduceEqDiff, Nat.reduceAdd, Nat.reduceMul, Nat.reduceSub, Nat.reduceLT, Int.reduceToNat]))
    unfold szv
    rw [if_pos (by omega)]
    have : left - (lI t.sh.words).length - (lI t.en.words).length - (t.lab.length : Int) = left - (((lI t.sh.words).length + (lI t.en.words).length + t.lab.length : Nat) : Int) := by omega
    rw [this]

theorem c_laws_toIntS_o (a : Option (List Int)) (ha : (lI a).length ≤ 1048576) : FnO Tryz.prog 89 [eI a] (· = eI (some (lI a))) := by
  intro h
  refine enter (by kernel_rfl) e89 (by kernel_rfl) rfl fun hok => ?_
  simp only [r89, initEnv_1]
  (try (simp (disch := first | omega | (simp <;> omega) | fail) only [push_cast, ↓reduceIte, Nat.reduceEqDiff, Nat.reduceAdd, Nat.reduceMul, Nat.reduceSub, Nat.reduceLT, Int.reduceToNat]))
  refine T_for (lI a).length (fun i e h' => Pins e [(0, eI a), (3, .sl h.length 0 1 (lI a).length (lI a).length), (4, .int .i64 i)] ∧ h' = h ++ [some (.cells (fill (.int .i64) (lI a) (.int .i64 0) i))]) ?_ ?_
  · (try (simp (disch := first | omega | (simp <;> omega) | fail) only [push_cast, ↓reduceIte, Nat.reduceEqDiff, Nat.reduceAdd, Nat.reduceMul, Nat.reduceSub, Nat.reduceLT, Int.reduceToNat, fill_0]))
  rintro i e h' hi ⟨hp, rfl⟩
  refine T_pins hp fun e => ?_
  (try (simp (disch := first | omega | (simp <;> omega) | fail) only [push_cast, ↓reduceIte, Nat.reduceEqDiff, Nat.reduceAdd, Nat.reduceMul, Nat.reduceSub, Nat.reduceLT, Int.reduceToNat]))
  first | refine goC_split (fun hc => ?_) (fun hc => ?_) | refine cnd_split (fun hc => ?_) (fun hc => ?_)
  · (try (simp only [decide_eq_true_eq, decide_eq_false_iff_not, Bool.not_eq_true', Bool.not_eq_false', Bool.and_eq_true, Bool.or_eq_true, Int.not_lt, Int.not_le] at hc)); (try (simp (disch := first | omega | (simp <;> omega) | fail) only [push_cast, ↓reduceIte, Nat.reduceEqDiff, Nat.reduceAdd, Nat.reduceMul, Nat.reduceSub, Nat.reduceLT, Int.reduceToNat]))
    (try (simp (disch := first | omega | (simp <;> omega) | fail) only [push_cast, ↓reduceIte, Nat.reduceEqDiff, Nat.reduceAdd, Nat.reduceMul, Nat.reduceSub, Nat.reduceLT, Int.reduceToNat, fill_len hi]))
    rw [fill_next (d := 0) (by omega) rfl]
  · (try (simp only [decide_eq_true_eq, decide_eq_false_iff_not, Bool.not_eq_true', Bool.not_eq_false', Bool.and_eq_true, Bool.or_eq_true, Int.not_lt, Int.not_le] at hc)); (try (simp (disch := first | omega | (simp <;> omega) | fail) only [push_cast, ↓reduceIte, Nat.reduceEqDiff, Nat.reduceAdd, Nat.reduceMul, Nat.reduceSub, Nat.reduceLT, Int.reduceToNat]))
    rw [fill_all (by omega)]
    exact ⟨_, ow_map (fun _ => rfl) (by rw [cells_h0]; rfl) rfl (Nat.le_refl _), rfl⟩
theorem c_laws_toIntS (a : Option (List Int)) (ha : (lI a).length ≤ 1048576) : Fn Tryz.prog 89 [eI a] (· = eI (some (lI a))) := (c_laws_toIntS_o a ha).fn

theorem c_laws_toBits_o (b : Bt) (ha : (lI b.words).length ≤ 1048576) : FnO Tryz.prog 56 [eB b] (· = eB (cpB b)) := by
  intro h
  refine enter (by kernel_rfl) e56 (by kernel_rfl) rfl fun hok => ?_
  simp only [r56, initEnv_1]
  (try (simp (disch := first | omega | (simp <;> omega) | fail) only [push_cast, ↓reduceIte, Nat.reduceEqDiff, Nat.reduceAdd, Nat.reduceMul, Nat.reduceSub, Nat.reduceLT, Int.reduceToNat]))
  refine (c_laws_toIntS_o _ ha).use fun x t l hR how => ?_
  subst hR
  obtain ⟨bb, rfl⟩ := Ow.sl1 (show Ow _ [x] [.ro 1 _ _] _ from how)
  (try (simp (disch := first | omega | (simp <;> omega) | fail) only [push_cast, ↓reduceIte, Nat.reduceEqDiff, Nat.reduceAdd, Nat.reduceMul, Nat.reduceSub, Nat.reduceLT, Int.reduceToNat]))
  refine ⟨_, (Ow.atom rfl (how.shift (fun c hc => ?_) (by simp))).aggOf, rfl⟩
  rw [List.append_assoc]
  exact tl_k (p := [_, _, _]) (q := [_, _, _]) rfl (by simpa using hc)
theorem c_laws_toBits (b : Bt) (ha : (lI b.words).length ≤ 1048576) : Fn Tryz.prog 56 [eB b] (· = eB (cpB b)) := (c_laws_toBits_o b ha).fn

def cpTr (t : Tr) : Tr := ⟨cpB t.sh, cpB t.en, t.lab⟩

theorem c_laws_toTrie (t : Tr) (h1 : (lI t.sh.words).length ≤ 1048576) (h2 : (lI t.en.words).length ≤ 1048576) : Fn Tryz.prog 14 [eTr t] (· = eTr (cpTr t)) := by
  refine Fn.of free_eTr fun h => ?_
  refine enter (by kernel_rfl) e14 (by kernel_rfl) rfl fun hok => ?_
  simp only [r14, initEnv_1]
  (try (simp (disch := first | omega | (simp <;> omega) | fail) only [push_cast, ↓reduceIte, Nat.reduceEqDiff, Nat.reduceAdd, Nat.reduceMul, Nat.reduceSub, Nat.reduceLT, Int.reduceToNat]))
  refine (c_laws_toBits t.sh h1).call ?_
  (try (simp (disch := first | omega | (simp <;> omega) | fail) only [push_cast, ↓reduceIte, Nat.reduceEqDiff, Nat.reduceAdd, Nat.reduceMul, Nat.reduceSub, Nat.reduceLT, Int.reduceToNat]))
  refine (c_laws_toBits t.en h2).call ?_
  (try (simp (disch := first | omega | (simp <;> omega) | fail) only [push_cast, ↓reduceIte, Nat.reduceEqDiff, Nat.reduceAdd, Nat.reduceMul, Nat.reduceSub, Nat.reduceLT, Int.reduceToNat]))
  all_goals (try rfl)
theorem c_laws_toTrie_o (t : Tr) (h1 : (lI t.sh.words).length ≤ 1048576) (h2 : (lI t.en.words).length ≤ 1048576) : FnO Tryz.prog 14 [eTr t] (· = eTr (cpTr t)) := by
  intro h
  refine enter (by kernel_rfl) e14 (by kernel_rfl) rfl fun hok => ?_
  simp only [r14, initEnv_1]
  (try (simp (disch := first | omega | (simp <;> omega) | fail) only [push_cast, ↓reduceIte, Nat.reduceEqDiff, Nat.reduceAdd, Nat.reduceMul, Nat.reduceSub, Nat.reduceLT, Int.reduceToNat]))
  refine (c_laws_toBits_o t.sh h1).use fun x t1 l hR how => ?_
  subst hR
  obtain ⟨w1, F1, rfl, f1, f2, f3, f4, _⟩ := ow_bt how
  (try (simp (disch := first | omega | (simp <;> omega) | fail) only [push_cast, ↓reduceIte, Nat.reduceEqDiff, Nat.reduceAdd, Nat.reduceMul, Nat.reduceSub, Nat.reduceLT, Int.reduceToNat, f3, f4]))
  refine (c_laws_toBits_o t.en h2).use fun x t2 l2 hR how2 => ?_
  subst hR
  obtain ⟨w2, F2, rfl, k1, k2, k3, k4, _⟩ := ow_bt how2
  (try (simp (disch := first | omega | (simp <;> omega) | fail) only [push_cast, ↓reduceIte, Nat.reduceEqDiff, Nat.reduceAdd, Nat.reduceMul, Nat.reduceSub, Nat.reduceLT, Int.reduceToNat, f3, f4, k3, k4]))
  refine ⟨_, ow_tr (n0 := h.length) (f1.frame fun c hc => ?_) (k1.frame fun c hc => ?_) (fun c hc => ?_) (fun c hc => ⟨?_, fun hh => ?_⟩), rfl⟩
  · have h5 := f2 c hc
    have h6 := h5.1
    have h7 := h5.2
    rw [List.append_assoc]
    exact tl_k2 (p := [_, _, _]) (q := [_, _, _]) rfl (by simpa using h6) (by simp at h7 ⊢; omega)
  · have h5 := (k2 c hc).1
    rw [List.append_assoc]
    exact tl_k (p := [_, _, _]) (q := [_, _, _]) rfl (by simp at h5 ⊢; omega)
  · have h5 := (f2 c hc).1
    simp at h5
    omega
  · have h5 := (k2 c hc).1
    simp at h5
    omega
  · have h5 := (k2 c hc).1
    have h6 := (f2 c hh).2
    simp at h5 h6
    omega

def zF : AV := .tup [.int .i64 0, .bool false]
def paV (t : Tr) (i : Int) : AV := match trV t with
  | some K => if 1 ≤ i ∧ i ≤ ((nodesK K).length : Int) - 1 then .tup [.int .i64 (fndI (nodesK K) (((nodesK K).getD i.toNat []).take (((nodesK K).getD i.toNat []).length - 1))), .bool true] else zF
  | none => zF
def chR (N : List Str) (s : Str) : AV := if fndI N s < 0 then zF else .tup [.int .i64 (fndI N s), .bool true]
def chV (t : Tr) (i c : Int) : AV := match trV t with
  | some K => if (0 ≤ i ∧ i ≤ ((nodesK K).length : Int) - 1) ∧ (0 ≤ c ∧ c ≤ 255) then chR (nodesK K) ((nodesK K).getD i.toNat [] ++ [UInt8.ofNat c.toNat]) else zF
  | none => zF
def txV (t : Tr) (s : Str) : AV := match trV t with
  | some K => if s ∈ K then .tup [.int .i64 (fndI ((nodesK K).filter fun x => decide (x ∈ K)) s), .bool true] else zF
  | none => zF
def rkV (t : Tr) (s : Str) : AV := match trV t with
  | some K => .tup [.int .i64 (rkS K s), .bool true]
  | none => zF
def KyR (t : Tr) (p : Str → Bool) (v : AV) : Prop := ∃ o b, v = .tup [eS o, .bool b] ∧ ((b = true ∧ ∃ K, trV t = some K ∧ lS o = K.filter p) ∨ (b = false ∧ trV t = none ∧ lS o = []))
def okV (t : Tr) : AV := match trV t with
  | some K => .tup [eS (some (nodesK K)), .bool true]
  | none => .tup [.nils, .bool false]
theorem trV_ok {t : Tr} {K : List Str} (h : trV t = some K) : okKeys K = true ∧ K.length ≤ 40 := ⟨(trV_some h).keys, (okKeys_all (trV_some h).keys).2.2⟩
theorem KyR.no {t : Tr} {p : Str → Bool} (h : trV t = none) : KyR t p (.tup [.nils, .bool false]) := ⟨none, false, rfl, .inr ⟨rfl, h, rfl⟩⟩

theorem c_spec_trRank (o : Option (List Str)) (s : Str) : Fn Tryz.prog 66 [eS o, .str s] (· = .int .i64 (rkS (lS o) s)) := by
  refine Fn.of free_int fun h => ?_
  refine enter (by kernel_rfl) e66 (by kernel_rfl) rfl fun hok => ?_
  simp only [r66, initEnv_2]
  have hlen := ok_eS (okV_0 hok)
  (try (simp (disch := first | omega | (simp <;> omega) | fail) only [push_cast, ↓reduceIte, Nat.reduceEqDiff, Nat.reduceAdd, Nat.reduceMul, Nat.reduceSub, Nat.reduceLT, Int.reduceToNat]))
  refine T_for (lS o).length (fun k e h' => Pins e [(1, .str s), (5, .int .i64 (rkS ((lS o).take k) s)), (8, eS o), (9, .int .i64 (lS o).length), (10, .int .i64 k)] ∧ h' = h ∧ rkS ((lS o).take k) s ≤ k) ?_ ?_
  · (try (simp (disch := first | omega | (simp <;> omega) | fail) only [push_cast, ↓reduceIte, Nat.reduceEqDiff, Nat.reduceAdd, Nat.reduceMul, Nat.reduceSub, Nat.reduceLT, Int.reduceToNat]))
    all_goals (try simp [rkS])
  rintro k e h' hk ⟨hp, rfl, hle⟩
  refine T_pins hp fun e => ?_
  (try (simp (disch := first | omega | (simp <;> omega) | fail) only [push_cast, ↓reduceIte, Nat.reduceEqDiff, Nat.reduceAdd, Nat.reduceMul, Nat.reduceSub, Nat.reduceLT, Int.reduceToNat]))
  first | refine goC_split (fun hc => ?_) (fun hc => ?_) | refine cnd_split (fun hc => ?_) (fun hc => ?_)
  · (try (simp only [decide_eq_true_eq, decide_eq_false_iff_not, Bool.not_eq_true', Bool.not_eq_false', Bool.and_eq_true, Bool.or_eq_true, Int.not_lt, Int.not_le] at hc)); (try (simp (disch := first | omega | (simp <;> omega) | fail) only [push_cast, ↓reduceIte, Nat.reduceEqDiff, Nat.reduceAdd, Nat.reduceMul, Nat.reduceSub, Nat.reduceLT, Int.reduceToNat]))
    have hk2 : k < (lS o).length := by omega
    have htk : (lS o).take (k + 1) = (lS o).take k ++ [(lS o).getD k []] := by
      rw [List.take_add_one]
      simp [hk2]
    have hnx : rkS ((lS o).take (k + 1)) s = rkS ((lS o).take k) s + if Op.bytesLess ((lS o).getD k []) s then 1 else 0 := by
      unfold rkS
      rw [htk, List.filter_append, List.length_append]
      generalize (lS o).getD k [] = y
      cases hb : Op.bytesLess y s <;> simp [hb]
    (try (simp (disch := first | omega | (simp <;> omega) | fail) only [push_cast, ↓reduceIte, Nat.reduceEqDiff, Nat.reduceAdd, Nat.reduceMul, Nat.reduceSub, Nat.reduceLT, Int.reduceToNat]))
    first | refine goC_split (fun hd => ?_) (fun hd => ?_) | refine cnd_split (fun hd => ?_) (fun hd => ?_)
    · (try (simp only [decide_eq_true_eq, decide_eq_false_iff_not, Bool.not_eq_true', Bool.not_eq_false', Bool.and_eq_true, Bool.or_eq_true, Int.not_lt, Int.not_le] at hd)); (try (simp (disch := first | omega | (simp <;> omega) | fail) only [push_cast, ↓reduceIte, Nat.reduceEqDiff, Nat.reduceAdd, Nat.reduceMul, Nat.reduceSub, Nat.reduceLT, Int.reduceToNat]))
      rw [hd, if_pos rfl] at hnx
      (try (simp (disch := first | omega | (simp <;> omega) | fail) only [push_cast, ↓reduceIte, Nat.reduceEqDiff, Nat.reduceAdd, Nat.reduceMul, Nat.reduceSub, Nat.reduceLT, Int.reduceToNat, hnx]))
      all_goals (try omega)
    · (try (simp only [decide_eq_true_eq, decide_eq_false_iff_not, Bool.not_eq_true', Bool.not_eq_false', Bool.and_eq_true, Bool.or_eq_true, Int.not_lt, Int.not_le] at hd)); (try (simp (disch := first | omega | (simp <;> omega) | fail) only [push_cast, ↓reduceIte, Nat.reduceEqDiff, Nat.reduceAdd, Nat.reduceMul, Nat.reduceSub, Nat.reduceLT, Int.reduceToNat]))
      rw [hd, if_neg (by simp)] at hnx
      (try (simp (disch := first | omega | (simp <;> omega) | fail) only [push_cast, ↓reduceIte, Nat.reduceEqDiff, Nat.reduceAdd, Nat.reduceMul, Nat.reduceSub, Nat.reduceLT, Int.reduceToNat, hnx]))
      all_goals (try omega)
  · (try (simp only [decide_eq_true_eq, decide_eq_false_iff_not, Bool.not_eq_true', Bool.not_eq_false', Bool.and_eq_true, Bool.or_eq_true, Int.not_lt, Int.not_le] at hc)); (try (simp (disch := first | omega | (simp <;> omega) | fail) only [push_cast, ↓reduceIte, Nat.reduceEqDiff, Nat.reduceAdd, Nat.reduceMul, Nat.reduceSub, Nat.reduceLT, Int.reduceToNat]))
    have hke : k = (lS o).length := by omega
    subst hke
    rw [List.take_length]
    (try (simp (disch := first | omega | (simp <;> omega) | fail) only [push_cast, ↓reduceIte, Nat.reduceEqDiff, Nat.reduceAdd, Nat.reduceMul, Nat.reduceSub, Nat.reduceLT, Int.reduceToNat]))

theorem c_spec_TrieRank (t : Tr) (s : Str) : Fn Tryz.prog 21 [eTr t, .str s] (· = rkV t s) := by
  have hfz : Free zF := free_tup (free_cons_ free_int (free_cons_ free_bool free_nil_))
  refine Fn.of (by unfold rkV; split <;> first | exact hfz | exact free_tup (free_cons_ free_int (free_cons_ free_bool free_nil_))) fun h => ?_
  clear hfz
  refine enter (by kernel_rfl) e21 (by kernel_rfl) rfl fun hok => ?_
  simp only [r21, initEnv_2]
  have hk := c_spec_trKeys t
  have hpv : rkV t s = match trV t with | some K => .tup [.int .i64 (rkS K s), .bool true] | none => zF := rfl
  generalize rkV t s = R at hpv
  obtain ⟨⟨ss, sw⟩, ⟨es, ew⟩, lab⟩ := t
  (try (simp (disch := first | omega | (simp <;> omega) | fail) only [push_cast, ↓reduceIte, Nat.reduceEqDiff, Nat.reduceAdd, Nat.reduceMul, Nat.reduceSub, Nat.reduceLT, Int.reduceToNat]))
  refine hk.use fun x hx => ?_
  obtain ⟨o, b, rfl, ⟨rfl, hx⟩ | ⟨rfl, hx⟩⟩ := hx
  · rw [hx] at hpv
    simp only at hpv
    (try (simp (disch := first | omega | (simp <;> omega) | fail) only [push_cast, ↓reduceIte, Nat.reduceEqDiff, Nat.reduceAdd, Nat.reduceMul, Nat.reduceSub, Nat.reduceLT, Int.reduceToNat]))
    refine (c_spec_trRank o s).call ?_
    (try (simp (disch := first | omega | (simp <;> omega) | fail) only [push_cast, ↓reduceIte, Nat.reduceEqDiff, Nat.reduceAdd, Nat.reduceMul, Nat.reduceSub, Nat.reduceLT, Int.reduceToNat, hpv]))
  · rw [hx] at hpv
    simp only at hpv
    (try (simp (disch := first | omega | (simp <;> omega) | fail) only [push_cast, ↓reduceIte, Nat.reduceEqDiff, Nat.reduceAdd, Nat.reduceMul, Nat.reduceSub, Nat.reduceLT, Int.reduceToNat, hpv, zF]))

def nF : AV := .tup [.str [], .nils, .bool false]
def naV (t : Tr) (i : Int) : AV := match trV t with
  | some K => if 0 ≤ i ∧ i ≤ ((nodesK K).length : Int) - 1 then .tup [.str ((nodesK K).getD i.toNat []), eS (some (nodesK K)), .bool true] else nF
  | none => nF
theorem ow_nF {h : H} {x : AV} {G : Nat → Prop} (ho : Ow h [x] [nF] G) : x = nF := by
  obtain ⟨cs, rfl, h1⟩ := Ow.openTup (show Ow h [x] [.tup _] G from ho)
  rw [ow_atoms_eqT h1 (by simp [M.atom])]
  rfl
theorem nF_ow {h : H} {G : Nat → Prop} : Ow h [nF] [nF] G := (Ow.atom rfl (.atom rfl (.atom rfl .nil)) : Ow h [.str [], .nils, .bool false] [.str [], .nils, .bool false] G).tupOf
theorem ow_na {h : H} {x : AV} {s : Str} {N : List Str} {G : Nat → Prop} (ho : Ow h [x] [.tup [.str s, eS (some N), .bool true]] G) : ∃ b, x = .tup [.str s, .sl b 0 1 N.length N.length, .bool true] ∧ G b ∧ h.cells b = some (N.map .str) := by
  obtain ⟨cs, rfl, h1⟩ := Ow.openTup ho
  have hl : cs.length = 3 := h1.len.symm
  match cs, hl, h1 with
  | [x1, x2, x3], _, h1 =>
    obtain ⟨_, F, f1, h2, _, e1⟩ := h1.uncons
    obtain ⟨F2, F3, f2, h3, e2, e3⟩ := h2.uncons
    have a1 : x1 = .str s := f1.atomOf rfl
    have a3 : x3 = .bool true := h3.atomOf rfl
    obtain ⟨b, rfl, hb, hc⟩ := ow_strs f2
    subst a1 a3
    exact ⟨b, rfl, (e1 b (e2 b hb)).1, hc⟩
theorem own_zF {n : Nat} : Own n zF := own_tup (own_cons_ own_int (own_cons_ own_bool own_nil_))
theorem own_chR {n : Nat} {N : List Str} {s : Str} : Own n (chR N s) := by
  unfold chR
  split
  · exact own_zF
  · exact own_tup (own_cons_ own_int (own_cons_ own_bool own_nil_))
theorem free_zF : Free zF := free_tup (free_cons_ free_int (free_cons_ free_bool free_nil_))
theorem free_chR {N : List Str} {s : Str} : Free (chR N s) := by
  unfold chR
  split
  · exact free_zF
  · exact free_tup (free_cons_ free_int (free_cons_ free_bool free_nil_))
theorem chR_in {N : List Str} {s : Str} (h : s ∈ N) : chR N s = .tup [.int .i64 (fndI N s), .bool true] := by
  unfold chR
  rw [if_neg (fun h5 => fnd_neg.1 h5 h)]

def fnV (t : Tr) (s : Str) : AV := match trV t with
  | some K => chR (nodesK K) s
  | none => zF
theorem chR_nil {s : Str} : chR [] s = zF := by
  unfold chR
  rw [if_pos (by rw [fnd_no (by simp)]; decide)]

theorem cnt_ends {t : Tr} {K : List Str} (h : TrI t K) {i : Nat} (hi : i ≤ (nodesK K).length) : ((List.range i).filter (numW (lI t.en.words)).testBit).length = (((nodesK K).take i).filter fun x => decide (x ∈ K)).length := by
  have h1 := endsTo_filter (P := nodesK K) (g := atB t.en) (p := fun x => decide (x ∈ K)) i hi fun j hj => h.at_ (by omega)
  rw [← h1]
  unfold endsTo
  rw [List.length_map]
  rfl
theorem tx_at {t : Tr} {K : List Str} (h : TrI t K) {s : Str} {i : Nat} (hf : fndI (nodesK K) s = i) : i < (nodesK K).length ∧ atB t.en i = decide (s ∈ K) := by
  have hi := fnd_hi (l := nodesK K) (s := s)
  have hl : i < (nodesK K).length := by omega
  have hm : s ∈ nodesK K := by
    apply Classical.byContradiction
    intro h5
    rw [fnd_no h5] at hf
    omega
  obtain ⟨j, h1, _, h3, _⟩ := fnd_in hm
  have : j = i := by omega
  subst this
  exact ⟨hl, by rw [h.at_ hl, h3]⟩
theorem TrI.words {t : Tr} {K : List Str} (h : TrI t K) : okBt t.en = true := (okT0_in h.ok0).2.1

theorem KyR_all {t : Tr} {o : Option (List Str)} {b : Bool} (h : (b = true ∧ trV t = some (lS o)) ∨ (b = false ∧ trV t = none ∧ lS o = [])) : KyR t (fun _ => true) (.tup [eS o, .bool b]) := by
  refine ⟨o, b, rfl, ?_⟩
  rcases h with ⟨h1, h2⟩ | ⟨h1, h2, h3⟩
  · exact .inl ⟨h1, _, h2, (List.filter_eq_self.2 fun _ _ => rfl).symm⟩
  · exact .inr ⟨h1, h2, h3⟩
theorem KyR_get {t : Tr} {v : AV} (h : KyR t (fun _ => true) v) : ∃ o b, v = .tup [eS o, .bool b] ∧ ((b = true ∧ trV t = some (lS o)) ∨ (b = false ∧ trV t = none ∧ lS o = [])) := by
  obtain ⟨o, b, rfl, h⟩ := h
  refine ⟨o, b, rfl, ?_⟩
  rcases h with ⟨h1, K, h2, h3⟩ | h1
  · rw [List.filter_eq_self.2 fun _ _ => rfl] at h3
    exact .inl ⟨h1, by rw [h3]; exact h2⟩
  · exact .inr h1
theorem ow_tup2 {h : H} {x : AV} {t u : AV} {G : Nat → Prop} (hu : M.atom u = true) (ho : Ow h [x] [.tup [t, u]] G) : ∃ y, x = .tup [y, u] ∧ Ow h [y] [t] G := by
  obtain ⟨cs, rfl, h1⟩ := Ow.openTup ho
  have hl : cs.length = 2 := h1.len.symm
  match cs, hl, h1 with
  | [x1, x2], _, h1 =>
    obtain ⟨F, F', f1, h2, e1, e2⟩ := h1.uncons
    have a2 : x2 = u := h2.atomOf hu
    subst a2
    exact ⟨x1, rfl, f1.mono e1⟩
theorem ow_tup2_of {h : H} {y t u : AV} {G : Nat → Prop} (hu : M.atom u = true) (ho : Ow h [y] [t] G) : Ow h [.tup [y, u]] [.tup [t, u]] G :=
  (ho.cons (F' := fun _ => False) (.atom hu .nil) (fun _ h => h) (fun _ h => h.elim)).tupOf
/-- What the ends are of a right trie. -/
theorem ends_keys {t : Tr} {K L : List Str} (h : TrI t K) (hp : L.Perm (endsTo (nodesK K) (fun i => decide ((i : Int) < t.en.size) && atB t.en i) (nodesK K).length)) (hs : L.Pairwise fun x y => Op.bytesLess y x = false) : L = K := by
  have h1 := trV_sort h.ok0 (h.dec true) hp hs
  rw [trV_of h] at h1
  split at h1
  · injection h1 with h1
    exact h1.symm
  · cases h1
theorem eS_ow {h : H} {x : AV} {o : Option (List Str)} {G : Nat → Prop} (ho : Ow h [x] [eS o] G) : (o = none ∧ x = .nils) ∨ ∃ L b, o = some L ∧ x = .sl b 0 1 L.length L.length ∧ G b ∧ h.cells b = some (L.map .str) := by
  cases o with
  | none => exact .inl ⟨rfl, ho.atomOf rfl⟩
  | some L =>
    obtain ⟨b, h1, h2, h3⟩ := ow_strs ho
    exact .inr ⟨L, b, rfl, h1, h2, h3⟩

theorem c_impl_Trie_keys_o (t : Tr) : FnO Tryz.prog 67 [.rad (cTr t) 0] (KyR t fun _ => true) := by
  intro h
  refine enter (by kernel_rfl) e67 (by kernel_rfl) rfl fun hok => ?_
  simp only [r67, initEnv_1]
  have hn := c_impl_Trie_nodes_o t
  have hE := c_impl_Trie_ends_o t
  have hkk := fun K => @trV_ok t K
  have hI := fun K => @trV_some t K
  have hky := fun o b => @KyR_all t o b
  have hnv : noV t = match trV t with | some K => eS (some (nodesK K)) | none => .nils := rfl
  have hfc := @free_cTr t
  rw [hnv] at hn
  clear hnv
  cases hv : trV t with
  | none =>
    rw [hv] at hn
    simp only at hn
    have hno : ∀ hh : H, ∃ t', Ow hh [.tup [.nils, .bool false]] [t'] (fun c => h.length ≤ c) ∧ KyR t (fun _ => true) t' := fun hh => ⟨_, ow_tup2_of rfl (.atom rfl .nil), hky none false (.inr ⟨rfl, hv, rfl⟩)⟩
    obtain ⟨⟨ss, sw⟩, ⟨es, ew⟩, lab⟩ := t
    (try (simp (disch := first | omega | (simp <;> omega) | fail) only [push_cast, ↓reduceIte, Nat.reduceEqDiff, Nat.reduceAdd, Nat.reduceMul, Nat.reduceSub, Nat.reduceLT, Int.reduceToNat]))
    refine hn.go fun x t' g hR hx how => ?_
    subst hR
    have hxn : x = .nils := how.atomOf rfl
    subst hxn
    (try (simp (disch := first | omega | (simp <;> omega) | fail) only [push_cast, ↓reduceIte, Nat.reduceEqDiff, Nat.reduceAdd, Nat.reduceMul, Nat.reduceSub, Nat.reduceLT, Int.reduceToNat]))
    all_goals (try exact hno _)
    done
  | some K =>
    rw [hv] at hn
    simp only at hn
    have hIK := hI K hv
    have hN1 := nodesK_cap (hkk K hv).2
    have hE2 := hE (some (nodesK K)) hIK.words (by show (nodesK K).length ≤ 5000; omega)
    have hek := fun L => @ends_keys t K L hIK
    have hyes : ∀ (hh : H) (x : AV), Ow hh [x] [eS (some K)] (fun c => h.length ≤ c) → ∃ t', Ow hh [.tup [x, .bool true]] [t'] (fun c => h.length ≤ c) ∧ KyR t (fun _ => true) t' := fun hh x hx => ⟨_, ow_tup2_of rfl hx, hky (some K) true (.inl ⟨rfl, hv⟩)⟩
    obtain ⟨⟨ss, sw⟩, ⟨es, ew⟩, lab⟩ := t
    (try (simp (disch := first | omega | (simp <;> omega) | fail) only [push_cast, ↓reduceIte, Nat.reduceEqDiff, Nat.reduceAdd, Nat.reduceMul, Nat.reduceSub, Nat.reduceLT, Int.reduceToNat]))
    refine hn.go fun x t' g hR hx how => ?_
    subst hR
    obtain ⟨b, rfl, hb0, hcb⟩ := ow_strs how
    (try (simp (disch := first | omega | (simp <;> omega) | fail) only [push_cast, ↓reduceIte, Nat.reduceEqDiff, Nat.reduceAdd, Nat.reduceMul, Nat.reduceSub, Nat.reduceLT, Int.reduceToNat]))
    refine hE2.goL (.free (free_radT hfc) (.cons (vw_all (Nat.zero_le _) hcb (by simp) (one_map fun _ => rfl) (free_map_ fun _ => free_str)) .nil)) fun x t' g2 hR hx2 how2 => ?_
    obtain ⟨L, rfl, p1, p2⟩ := hR
    have hLK : L = K := hek L p1 p2
    subst hLK
    have hl1 := hx.len
    have hf := hyes g2 x (how2.mono fun c hc => by have := hc.1; omega)
    (try (simp (disch := first | omega | (simp <;> omega) | fail) only [push_cast, ↓reduceIte, Nat.reduceEqDiff, Nat.reduceAdd, Nat.reduceMul, Nat.reduceSub, Nat.reduceLT, Int.reduceToNat]))
    all_goals (try exact hf)
    done

theorem c_cmp_isNaN_string (a : Str) : Fn Tryz.prog 129 [.str a] (· = .bool false) := by
  refine Fn.of free_bool fun h => ?_
  refine enter (by kernel_rfl) e129 (by kernel_rfl) rfl fun hok => ?_
  simp only [r129, initEnv_1]
  (try (simp (disch := first | omega | (simp <;> omega) | fail) only [push_cast, ↓reduceIte, Nat.reduceEqDiff, Nat.reduceAdd, Nat.reduceMul, Nat.reduceSub, Nat.reduceLT, Int.reduceToNat]))

theorem c_cmp_Less_string (a b : Str) : Fn Tryz.prog 100 [.str a, .str b] (· = .bool (Op.bytesLess a b)) := by
  refine Fn.of free_bool fun h => ?_
  refine enter (by kernel_rfl) e100 (by kernel_rfl) rfl fun hok => ?_
  simp only [r100, initEnv_2]
  (try (simp (disch := first | omega | (simp <;> omega) | fail) only [push_cast, ↓reduceIte, Nat.reduceEqDiff, Nat.reduceAdd, Nat.reduceMul, Nat.reduceSub, Nat.reduceLT, Int.reduceToNat]))
  refine (c_cmp_isNaN_string a).call ?_
  cases hb : Op.bytesLess a b
  · (try (simp (disch := first | omega | (simp <;> omega) | fail) only [push_cast, ↓reduceIte, Nat.reduceEqDiff, Nat.reduceAdd, Nat.reduceMul, Nat.reduceSub, Nat.reduceLT, Int.reduceToNat, hb]))
    done
  · (try (simp (disch := first | omega | (simp <;> omega) | fail) only [push_cast, ↓reduceIte, Nat.reduceEqDiff, Nat.reduceAdd, Nat.reduceMul, Nat.reduceSub, Nat.reduceLT, Int.reduceToNat, hb]))
    done

theorem c_slices_isNaN_string (a : Str) : Fn Tryz.prog 101 [.str a] (· = .bool false) := by
  refine Fn.of free_bool fun h => ?_
  refine enter (by kernel_rfl) e101 (by kernel_rfl) rfl fun hok => ?_
  simp only [r101, initEnv_1]
  (try (simp (disch := first | omega | (simp <;> omega) | fail) only [push_cast, ↓reduceIte, Nat.reduceEqDiff, Nat.reduceAdd, Nat.reduceMul, Nat.reduceSub, Nat.reduceLT, Int.reduceToNat]))

theorem c_slices_BinarySearch_string (o : Option (List Str)) (s : Str) (hp : (lS o).Pairwise slt) (hl : (lS o).length ≤ 1000000) : Fn Tryz.prog 68 [eS o, .str s] (fun v => ∃ b, v = .tup [.int .i64 (rkS (lS o) s), .bool b]) := by
  refine Fn.froze_ fun h => ?_
  refine enter (by kernel_rfl) e68 (by kernel_rfl) rfl fun hok => ?_
  simp only [r68, initEnv_2]
  have hlo := fun i j => @slt_lo (lS o) hp s i j
  have hhi := fun i j => @slt_hi (lS o) hp s i j
  have hrk := fun i => @rk_at (lS o) s i
  have w : ∀ z : Int, 0 ≤ z → z ≤ 4294967295 → IntKind.u64.wrap z = z := fun z h0 h1 => by
    rw [IntKind.wrap_u64]
    omega
  have w2 : ∀ z : Int, 0 ≤ z → z ≤ 4294967295 → IntKind.i64.wrap z = z := fun z h0 h1 => wrap_ok (by omega) (by omega)
  (try (simp (disch := first | omega | (simp <;> omega) | fail) only [push_cast, ↓reduceIte, Nat.reduceEqDiff, Nat.reduceAdd, Nat.reduceMul, Nat.reduceSub, Nat.reduceLT, Int.reduceToNat]))
  refine T_for (lS o).length (fun k e h' => ∃ i j : Nat, Pins e [(0, eS o), (1, .str s), (6, .int .i64 (lS o).length), (7, .int .i64 i), (8, .int .i64 j)] ∧ h' = h ∧ (i ≤ j ∧ j ≤ (lS o).length ∧ j - i + k ≤ (lS o).length) ∧ (∀ q, q < i → Op.bytesLess ((lS o).getD q []) s = true) ∧ ∀ q, j ≤ q → q < (lS o).length → Op.bytesLess ((lS o).getD q []) s = false) ?_ ?_
  · refine ⟨0, (lS o).length, ?_⟩
    (try (simp (disch := first | omega | (simp <;> omega) | fail) only [push_cast, ↓reduceIte, Nat.reduceEqDiff, Nat.reduceAdd, Nat.reduceMul, Nat.reduceSub, Nat.reduceLT, Int.reduceToNat]))
    all_goals (try exact ⟨fun q hq => by omega, fun q h1 h2 => by omega⟩)
    done
  rintro k e h' hk ⟨i, j, hp2, rfl, ⟨hij, hjl, hjk⟩, hA, hB⟩
  refine T_pins hp2 fun e => ?_
  (try (simp (disch := first | omega | (simp <;> omega) | fail) only [push_cast, ↓reduceIte, Nat.reduceEqDiff, Nat.reduceAdd, Nat.reduceMul, Nat.reduceSub, Nat.reduceLT, Int.reduceToNat]))
  first | refine goC_split (fun hc => ?_) (fun hc => ?_) | refine cnd_split (fun hc => ?_) (fun hc => ?_)
  · (try (simp only [decide_eq_true_eq, decide_eq_false_iff_not, Bool.not_eq_true', Bool.not_eq_false', Bool.and_eq_true, Bool.or_eq_true, Int.not_lt, Int.not_le] at hc)); (try (simp (disch := first | omega | (simp <;> omega) | fail) only [push_cast, ↓reduceIte, Nat.reduceEqDiff, Nat.reduceAdd, Nat.reduceMul, Nat.reduceSub, Nat.reduceLT, Int.reduceToNat]))
    have hij2 : i < j := by omega
    obtain ⟨m, hm⟩ : ∃ m : Nat, m = (i + j) / 2 := ⟨_, rfl⟩
    have hm1 : i ≤ m ∧ m < j := by omega
    have e1 := w ((i : Int) + j) (by omega) (by omega)
    have e2 : ((i : Int) + j).fdiv (2 ^ min 1 IntKind.u64.bits) = (m : Int) := by
      rw [show (2 : Int) ^ min 1 IntKind.u64.bits = 2 by decide, Int.fdiv_eq_ediv_of_nonneg _ (by decide)]
      omega
    have e3 := w2 (m : Int) (by omega) (by omega)
    have hmd : m < (lS o).length := by omega
    obtain ⟨y, hy⟩ : ∃ y, y = (lS o).getD m [] := ⟨_, rfl⟩
    (try (simp (disch := first | omega | (simp <;> omega) | fail) only [push_cast, ↓reduceIte, Nat.reduceEqDiff, Nat.reduceAdd, Nat.reduceMul, Nat.reduceSub, Nat.reduceLT, Int.reduceToNat, e1, e2, e3, ← hy]))
    refine (c_cmp_Less_string y s).call ?_
    cases hb : Op.bytesLess y s
    · have hB2 : ∀ q, m ≤ q → q < (lS o).length → Op.bytesLess ((lS o).getD q []) s = false := fun q h1 h2 => hhi m q h1 h2 (by rw [← hy]; exact hb)
      (try (simp (disch := first | omega | (simp <;> omega) | fail) only [push_cast, ↓reduceIte, Nat.reduceEqDiff, Nat.reduceAdd, Nat.reduceMul, Nat.reduceSub, Nat.reduceLT, Int.reduceToNat]))
      all_goals (try exact ⟨i, m, ⟨rfl, rfl⟩, by omega, hA, hB2⟩)
      done
    · have hA2 : ∀ q, q < m + 1 → Op.bytesLess ((lS o).getD q []) s = true := fun q h1 => hlo m q (by omega) hmd (by rw [← hy]; exact hb)
      (try (simp (disch := first | omega | (simp <;> omega) | fail) only [push_cast, ↓reduceIte, Nat.reduceEqDiff, Nat.reduceAdd, Nat.reduceMul, Nat.reduceSub, Nat.reduceLT, Int.reduceToNat]))
      all_goals (try exact ⟨m + 1, j, ⟨by simp, rfl⟩, by omega, hA2, hB⟩)
      done
  · (try (simp only [decide_eq_true_eq, decide_eq_false_iff_not, Bool.not_eq_true', Bool.not_eq_false', Bool.and_eq_true, Bool.or_eq_true, Int.not_lt, Int.not_le] at hc)); (try (simp (disch := first | omega | (simp <;> omega) | fail) only [push_cast, ↓reduceIte, Nat.reduceEqDiff, Nat.reduceAdd, Nat.reduceMul, Nat.reduceSub, Nat.reduceLT, Int.reduceToNat]))
    have hij2 : i = j := by omega
    subst hij2
    have hr := hrk i hjl hA hB
    have hfin : ∀ (hh : H) (b : Bool), ∃ t, Vw hh h'.length (.tup [.int .i64 i, .bool b]) t ∧ ∃ b, t = .tup [.int .i64 (rkS (lS o) s), .bool b] := fun hh b => ⟨_, .free (free_tup (free_cons_ free_int (free_cons_ free_bool free_nil_))), b, by rw [hr]⟩
    by_cases hil : i < (lS o).length
    · have hd : ((i : Int) < ((lS o).length : Int)) = True := by simp; omega
      obtain ⟨y, hy⟩ : ∃ y, y = (lS o).getD i [] := ⟨_, rfl⟩
      by_cases hys : y = s
      · (try (simp (disch := first | omega | (simp <;> omega) | fail) only [push_cast, ↓reduceIte, Nat.reduceEqDiff, Nat.reduceAdd, Nat.reduceMul, Nat.reduceSub, Nat.reduceLT, Int.reduceToNat, hd, ← hy, hys]))
        all_goals (try exact hfin _ _)
        done
      · (try (simp (disch := first | omega | (simp <;> omega) | fail) only [push_cast, ↓reduceIte, Nat.reduceEqDiff, Nat.reduceAdd, Nat.reduceMul, Nat.reduceSub, Nat.reduceLT, Int.reduceToNat, hd, ← hy, hys]))
        refine (c_slices_isNaN_string _).call ?_
        (try (simp (disch := first | omega | (simp <;> omega) | fail) only [push_cast, ↓reduceIte, Nat.reduceEqDiff, Nat.reduceAdd, Nat.reduceMul, Nat.reduceSub, Nat.reduceLT, Int.reduceToNat]))
        all_goals (try exact hfin _ _)
        done
    · have hd : ((i : Int) < ((lS o).length : Int)) = False := by simp; omega
      (try (simp (disch := first | omega | (simp <;> omega) | fail) only [push_cast, ↓reduceIte, Nat.reduceEqDiff, Nat.reduceAdd, Nat.reduceMul, Nat.reduceSub, Nat.reduceLT, Int.reduceToNat, hd]))
      all_goals (try exact hfin _ _)
      done

theorem c_impl_TrieRank (t : Tr) (s : Str) : Fn Tryz.prog 22 [eTr t, .str s] (· = rkV t s) := by
  refine Fn.of (by unfold rkV; split <;> first | exact free_zF | exact free_tup (free_cons_ free_int (free_cons_ free_bool free_nil_))) fun h => ?_
  refine enter (by kernel_rfl) e22 (by kernel_rfl) rfl fun hok => ?_
  simp only [r22, initEnv_2]
  have hk := c_impl_Trie_keys_o t
  have hkk := fun K => @trV_ok t K
  have hpv : rkV t s = match trV t with | some K => .tup [.int .i64 (rkS K s), .bool true] | none => zF := rfl
  have hfc := @free_cTr t
  generalize rkV t s = R at hpv
  have hcb0 : H.cells (h ++ [some (.cells (cTr t))]) h.length = some (cTr t) := by rw [cells_h0]; rfl
  have hg : ∀ v, KyR t (fun _ => true) v → ∃ o b, v = .tup [eS o, .bool b] ∧ ((b = true ∧ trV t = some (lS o)) ∨ (b = false ∧ trV t = none ∧ lS o = [])) := fun v => KyR_get
  obtain ⟨⟨ss, sw⟩, ⟨es, ew⟩, lab⟩ := t
  (try (simp (disch := first | omega | (simp <;> omega) | fail) only [push_cast, ↓reduceIte, Nat.reduceEqDiff, Nat.reduceAdd, Nat.reduceMul, Nat.reduceSub, Nat.reduceLT, Int.reduceToNat]))
  refine hk.goL (.adr hcb0 hfc .nil) fun x t' g hR hx how => ?_
  obtain ⟨o, b, rfl, hob⟩ := hg _ hR
  obtain ⟨y, rfl, hy⟩ := ow_tup2 rfl how
  have hpw : (lS o).Pairwise slt ∧ (lS o).length ≤ 1000000 := by
    rcases hob with ⟨_, h2⟩ | ⟨_, _, h2⟩
    · have := hkk _ h2
      exact ⟨(okKeys_all this.1).2.1, by omega⟩
    · rw [h2]
      exact ⟨.nil, by simp⟩
  have hRv : R = .tup [.int .i64 (rkS (lS o) s), .bool b] := by
    rw [hpv]
    rcases hob with ⟨rfl, h2⟩ | ⟨rfl, h2, h3⟩
    · rw [h2]
    · rw [h2, h3]
      rfl
  subst hRv
  have hb2 := c_slices_BinarySearch_string o s hpw.1 hpw.2
  have hlend : Lend g [y, .str s] [eS o, .str s] := .cons hy.vw0 (.free free_str .nil)
  (try (simp (disch := first | omega | (simp <;> omega) | fail) only [push_cast, ↓reduceIte, Nat.reduceEqDiff, Nat.reduceAdd, Nat.reduceMul, Nat.reduceSub, Nat.reduceLT, Int.reduceToNat]))
  refine hb2.lend hlend.len hlend.get (fun z hz => ?_) (fun z hz => ?_)
  · obtain ⟨q, rfl⟩ := hz
    exact own_tup (own_cons_ own_int (own_cons_ own_bool own_nil_))
  · obtain ⟨q, rfl⟩ := hz
    (try (simp (disch := first | omega | (simp <;> omega) | fail) only [push_cast, ↓reduceIte, Nat.reduceEqDiff, Nat.reduceAdd, Nat.reduceMul, Nat.reduceSub, Nat.reduceLT, Int.reduceToNat]))

theorem c_laws_eqIntS (a b : Option (List Int)) : Fn Tryz.prog 91 [eI a, eI b] (· = .bool (decide (lI a = lI b))) := by
  refine Fn.of free_bool fun h => ?_
  refine enter (by kernel_rfl) e91 (by kernel_rfl) rfl fun hok => ?_
  simp only [r91, initEnv_2]
  have ha := ok_eI (okV_0 hok)
  have hb := ok_eI (okV_1 hok)
  (try (simp (disch := first | omega | (simp <;> omega) | fail) only [push_cast, ↓reduceIte, Nat.reduceEqDiff, Nat.reduceAdd, Nat.reduceMul, Nat.reduceSub, Nat.reduceLT, Int.reduceToNat]))
  first | refine goC_split (fun hc => ?_) (fun hc => ?_) | refine cnd_split (fun hc => ?_) (fun hc => ?_)
  · (try (simp only [decide_eq_true_eq, decide_eq_false_iff_not, Bool.not_eq_true', Bool.not_eq_false', Bool.and_eq_true, Bool.or_eq_true, Int.not_lt, Int.not_le] at hc)); (try (simp (disch := first | omega | (simp <;> omega) | fail) only [push_cast, ↓reduceIte, Nat.reduceEqDiff, Nat.reduceAdd, Nat.reduceMul, Nat.reduceSub, Nat.reduceLT, Int.reduceToNat]))
    congr 1
    symm
    rw [decide_eq_false_iff_not]
    intro he
    rw [he] at hc
    exact hc rfl
  have hlen : (lI a).length = (lI b).length := by (try (simp only [decide_eq_true_eq, decide_eq_false_iff_not, Bool.not_eq_true', Bool.not_eq_false', Bool.and_eq_true, Bool.or_eq_true, Int.not_lt, Int.not_le] at hc)); (try (simp (disch := first | omega | (simp <;> omega) | fail) only [push_cast, ↓reduceIte, Nat.reduceEqDiff, Nat.reduceAdd, Nat.reduceMul, Nat.reduceSub, Nat.reduceLT, Int.reduceToNat])); omega
  (try (simp (disch := first | omega | (simp <;> omega) | fail) only [push_cast, ↓reduceIte, Nat.reduceEqDiff, Nat.reduceAdd, Nat.reduceMul, Nat.reduceSub, Nat.reduceLT, Int.reduceToNat]))
  refine T_for (lI a).length (fun i e h' => Pins e [(0, eI a), (1, eI b), (5, .int .i64 i)] ∧ h' = h ∧ (lI a).take i = (lI b).take i) ?_ ?_
  · (try (simp (disch := first | omega | (simp <;> omega) | fail) only [push_cast, ↓reduceIte, Nat.reduceEqDiff, Nat.reduceAdd, Nat.reduceMul, Nat.reduceSub, Nat.reduceLT, Int.reduceToNat]))
    simp
  rintro i e h' hi ⟨hp, rfl, he⟩
  refine T_pins hp fun e => ?_
  (try (simp (disch := first | omega | (simp <;> omega) | fail) only [push_cast, ↓reduceIte, Nat.reduceEqDiff, Nat.reduceAdd, Nat.reduceMul, Nat.reduceSub, Nat.reduceLT, Int.reduceToNat]))
  first | refine goC_split (fun hc => ?_) (fun hc => ?_) | refine cnd_split (fun hc => ?_) (fun hc => ?_)
  · (try (simp only [decide_eq_true_eq, decide_eq_false_iff_not, Bool.not_eq_true', Bool.not_eq_false', Bool.and_eq_true, Bool.or_eq_true, Int.not_lt, Int.not_le] at hc)); (try (simp (disch := first | omega | (simp <;> omega) | fail) only [push_cast, ↓reduceIte, Nat.reduceEqDiff, Nat.reduceAdd, Nat.reduceMul, Nat.reduceSub, Nat.reduceLT, Int.reduceToNat]))
    have hi : i < (lI a).length := by omega
    (try (simp (disch := first | omega | (simp <;> omega) | fail) only [push_cast, ↓reduceIte, Nat.reduceEqDiff, Nat.reduceAdd, Nat.reduceMul, Nat.reduceSub, Nat.reduceLT, Int.reduceToNat]))
    first | refine goC_split (fun hc => ?_) (fun hc => ?_) | refine cnd_split (fun hc => ?_) (fun hc => ?_)
    · (try (simp only [decide_eq_true_eq, decide_eq_false_iff_not, Bool.not_eq_true', Bool.not_eq_false', Bool.and_eq_true, Bool.or_eq_true, Int.not_lt, Int.not_le] at hc)); (try (simp (disch := first | omega | (simp <;> omega) | fail) only [push_cast, ↓reduceIte, Nat.reduceEqDiff, Nat.reduceAdd, Nat.reduceMul, Nat.reduceSub, Nat.reduceLT, Int.reduceToNat]))
      congr 1
      symm
      rw [decide_eq_false_iff_not]
      intro he
      rw [he] at hc
      exact hc rfl
    · (try (simp only [decide_eq_true_eq, decide_eq_false_iff_not, Bool.not_eq_true', Bool.not_eq_false', Bool.and_eq_true, Bool.or_eq_true, Int.not_lt, Int.not_le] at hc)); (try (simp (disch := first | omega | (simp <;> omega) | fail) only [push_cast, ↓reduceIte, Nat.reduceEqDiff, Nat.reduceAdd, Nat.reduceMul, Nat.reduceSub, Nat.reduceLT, Int.reduceToNat]))
      have h1 : i < (lI b).length := by omega
      simp [hi, h1] at hc
      rw [List.take_add_one, List.take_add_one, he]
      simp [hi, h1, hc]
  · (try (simp only [decide_eq_true_eq, decide_eq_false_iff_not, Bool.not_eq_true', Bool.not_eq_false', Bool.and_eq_true, Bool.or_eq_true, Int.not_lt, Int.not_le] at hc)); (try (simp (disch := first | omega | (simp <;> omega) | fail) only [push_cast, ↓reduceIte, Nat.reduceEqDiff, Nat.reduceAdd, Nat.reduceMul, Nat.reduceSub, Nat.reduceLT, Int.reduceToNat]))
    have hi2 : i = (lI a).length := by omega
    congr 1
    symm
    rw [decide_eq_true_iff]
    rw [hi2, List.take_length] at he
    rw [he, hlen, List.take_length]

theorem c_laws_eqBits (b c : Bt) : Fn Tryz.prog 59 [eB b, eB c] (· = .bool (decide (b.size = c.size) && decide (lI b.words = lI c.words))) := by
  refine Fn.of free_bool fun h => ?_
  refine enter (by kernel_rfl) e59 (by kernel_rfl) rfl fun hok => ?_
  simp only [r59, initEnv_2]
  (try (simp (disch := first | omega | (simp <;> omega) | fail) only [push_cast, ↓reduceIte, Nat.reduceEqDiff, Nat.reduceAdd, Nat.reduceMul, Nat.reduceSub, Nat.reduceLT, Int.reduceToNat]))
  first | refine goC_split (fun hc => ?_) (fun hc => ?_) | refine cnd_split (fun hc => ?_) (fun hc => ?_)
  · (try (simp only [decide_eq_true_eq, decide_eq_false_iff_not, Bool.not_eq_true', Bool.not_eq_false', Bool.and_eq_true, Bool.or_eq_true, Int.not_lt, Int.not_le] at hc)); (try (simp (disch := first | omega | (simp <;> omega) | fail) only [push_cast, ↓reduceIte, Nat.reduceEqDiff, Nat.reduceAdd, Nat.reduceMul, Nat.reduceSub, Nat.reduceLT, Int.reduceToNat]))
  (try (simp only [decide_eq_true_eq, decide_eq_false_iff_not, Bool.not_eq_true', Bool.not_eq_false', Bool.and_eq_true, Bool.or_eq_true, Int.not_lt, Int.not_le] at hc)); (try (simp (disch := first | omega | (simp <;> omega) | fail) only [push_cast, ↓reduceIte, Nat.reduceEqDiff, Nat.reduceAdd, Nat.reduceMul, Nat.reduceSub, Nat.reduceLT, Int.reduceToNat]))
  refine (c_laws_eqIntS _ _).call ?_
  cases he : decide (lI b.words = lI c.words)
  · (try (simp (disch := first | omega | (simp <;> omega) | fail) only [push_cast, ↓reduceIte, Nat.reduceEqDiff, Nat.reduceAdd, Nat.reduceMul, Nat.reduceSub, Nat.reduceLT, Int.reduceToNat]))
    all_goals (try simp [hc])
  · (try (simp (disch := first | omega | (simp <;> omega) | fail) only [push_cast, ↓reduceIte, Nat.reduceEqDiff, Nat.reduceAdd, Nat.reduceMul, Nat.reduceSub, Nat.reduceLT, Int.reduceToNat]))
    all_goals (try simp [hc])

theorem c_laws_eqTrie (t : Tr) : Fn Tryz.prog 16 [eTr t, eTr t] (· = .bool true) := by
  refine Fn.of free_bool fun h => ?_
  refine enter (by kernel_rfl) e16 (by kernel_rfl) rfl fun hok => ?_
  simp only [r16, initEnv_2]
  have hb : ∀ b : Bt, Fn Tryz.prog 59 [eB b, eB b] (· = .bool true) := fun b => by
    have := c_laws_eqBits b b
    simpa using this
  (try (simp (disch := first | omega | (simp <;> omega) | fail) only [push_cast, ↓reduceIte, Nat.reduceEqDiff, Nat.reduceAdd, Nat.reduceMul, Nat.reduceSub, Nat.reduceLT, Int.reduceToNat]))
  refine (hb t.sh).call ?_
  (try (simp (disch := first | omega | (simp <;> omega) | fail) only [push_cast, ↓reduceIte, Nat.reduceEqDiff, Nat.reduceAdd, Nat.reduceMul, Nat.reduceSub, Nat.reduceLT, Int.reduceToNat]))
  refine (hb t.en).call ?_
  (try (simp (disch := first | omega | (simp <;> omega) | fail) only [push_cast, ↓reduceIte, Nat.reduceEqDiff, Nat.reduceAdd, Nat.reduceMul, Nat.reduceSub, Nat.reduceLT, Int.reduceToNat]))

def shTrie : Sh := .st [.st [.int .i64, .sl (.int .i64) 1], .st [.int .i64, .sl (.int .i64) 1], .str]
theorem fit_trie {zs : List AV} (h : Fit shTrie zs) : ∃ t, argOf shTrie zs = eTr t ∧ t.lab.length ≤ 9223372036854775807 := by
  obtain ⟨x1, y1, rfl, h1, h⟩ := fits_cons (fit_st h)
  obtain ⟨x2, y2, rfl, h2, h⟩ := fits_cons h
  obtain ⟨x3, y3, rfl, h3, h⟩ := fits_cons h
  obtain rfl := fits_nil h
  obtain ⟨a1, b1, rfl, g1, g⟩ := fits_cons (fit_st h1)
  obtain ⟨a2, b2, rfl, g2, g⟩ := fits_cons g
  obtain rfl := fits_nil g
  obtain ⟨a, rfl, _⟩ := fit_int g1
  obtain ⟨ws, rfl⟩ := fit_ints g2
  obtain ⟨c1, d1, rfl, k1, k⟩ := fits_cons (fit_st h2)
  obtain ⟨c2, d2, rfl, k2, k⟩ := fits_cons k
  obtain rfl := fits_nil k
  obtain ⟨c, rfl, _⟩ := fit_int k1
  obtain ⟨vs, rfl⟩ := fit_ints k2
  obtain ⟨lab, rfl, hl⟩ := fit_str h3
  exact ⟨⟨⟨a, ws⟩, ⟨c, vs⟩, lab⟩, rfl, hl⟩
def isZT (v : AV) : Prop := ∃ n b, v = .tup [.int .i64 n, .bool b]
theorem isZT_zF : isZT zF := ⟨_, _, rfl⟩
theorem isZT_ch {N : List Str} {s : Str} : isZT (chR N s) := by
  unfold chR
  split
  · exact isZT_zF
  · exact ⟨_, _, rfl⟩
theorem isZT_pa {t : Tr} {i : Int} : isZT (paV t i) := by
  unfold paV
  split
  · split
    · exact ⟨_, _, rfl⟩
    · exact isZT_zF
  · exact isZT_zF
theorem isZT_chV {t : Tr} {i c : Int} : isZT (chV t i c) := by
  unfold chV
  split
  · split
    · exact isZT_ch
    · exact isZT_zF
  · exact isZT_zF
theorem isZT_tx {t : Tr} {s : Str} : isZT (txV t s) := by
  unfold txV
  split
  · split
    · exact ⟨_, _, rfl⟩
    · exact isZT_zF
  · exact isZT_zF
theorem isZT_rk {t : Tr} {s : Str} : isZT (rkV t s) := by
  unfold rkV
  split
  · exact ⟨_, _, rfl⟩
  · exact isZT_zF

def sh_FnExactTrieRank : List Sh := [shTrie, .str]
theorem law_FnExactTrieRank (ys : List AV) (hy : ArgsFit sh_FnExactTrieRank ys) : Call Tryz.prog 6 ys [] Nowhere (fun x _ => x = .bool true) := by
  obtain ⟨x1, y1, rfl, h1, hy⟩ := argsFit_cons hy
  obtain ⟨x2, y2, rfl, h2, hy⟩ := argsFit_cons hy
  obtain rfl := argsFit_nil hy
  obtain ⟨t, he, hlr⟩ := fit_trie h1
  obtain ⟨s, rfl, hrs⟩ := fit_str h2
  rw [he]
  refine (?_ : ∀ h, Call Tryz.prog 6 [eTr t, .str s] h Nowhere (fun x _ => x = .bool true)) []
  intro h
  refine enter (by kernel_rfl) e6 (by kernel_rfl) rfl fun hok => ?_
  simp only [r6, initEnv_2]
  (try (simp (disch := first | omega | (simp <;> omega) | fail) only [push_cast, ↓reduceIte, Nat.reduceEqDiff, Nat.reduceAdd, Nat.reduceMul, Nat.reduceSub, Nat.reduceLT, Int.reduceToNat]))
  first | refine goC_split (fun hc => ?_) (fun hc => ?_) | refine cnd_split (fun hc => ?_) (fun hc => ?_)
  · (try (simp only [decide_eq_true_eq, decide_eq_false_iff_not, Bool.not_eq_true', Bool.not_eq_false', Bool.and_eq_true, Bool.or_eq_true, Int.not_lt, Int.not_le] at hc)); (try (simp (disch := first | omega | (simp <;> omega) | fail) only [push_cast, ↓reduceIte, Nat.reduceEqDiff, Nat.reduceAdd, Nat.reduceMul, Nat.reduceSub, Nat.reduceLT, Int.reduceToNat]))
  (try (simp only [decide_eq_true_eq, decide_eq_false_iff_not, Bool.not_eq_true', Bool.not_eq_false', Bool.and_eq_true, Bool.or_eq_true, Int.not_lt, Int.not_le] at hc)); (try (simp (disch := first | omega | (simp <;> omega) | fail) only [push_cast, ↓reduceIte, Nat.reduceEqDiff, Nat.reduceAdd, Nat.reduceMul, Nat.reduceSub, Nat.reduceLT, Int.reduceToNat]))
  have hsl : s.length ≤ 1048576 := by omega
  clear hc
  refine (c_laws_szTrie t 1048576 (by omega) (by omega) hlr).call ?_
  (try (simp (disch := first | omega | (simp <;> omega) | fail) only [push_cast, ↓reduceIte, Nat.reduceEqDiff, Nat.reduceAdd, Nat.reduceMul, Nat.reduceSub, Nat.reduceLT, Int.reduceToNat]))
  first | refine goC_split (fun hd => ?_) (fun hd => ?_) | refine cnd_split (fun hd => ?_) (fun hd => ?_)
  · (try (simp only [decide_eq_true_eq, decide_eq_false_iff_not, Bool.not_eq_true', Bool.not_eq_false', Bool.and_eq_true, Bool.or_eq_true, Int.not_lt, Int.not_le] at hd)); (try (simp (disch := first | omega | (simp <;> omega) | fail) only [push_cast, ↓reduceIte, Nat.reduceEqDiff, Nat.reduceAdd, Nat.reduceMul, Nat.reduceSub, Nat.reduceLT, Int.reduceToNat]))
  (try (simp only [decide_eq_true_eq, decide_eq_false_iff_not, Bool.not_eq_true', Bool.not_eq_false', Bool.and_eq_true, Bool.or_eq_true, Int.not_lt, Int.not_le] at hd)); (try (simp (disch := first | omega | (simp <;> omega) | fail) only [push_cast, ↓reduceIte, Nat.reduceEqDiff, Nat.reduceAdd, Nat.reduceMul, Nat.reduceSub, Nat.reduceLT, Int.reduceToNat]))
  have hw := szv_ok hd
  have hw1 : (lI t.sh.words).length ≤ 1048576 := by omega
  have hw2 : (lI t.en.words).length ≤ 1048576 := by omega
  refine (c_laws_toTrie t hw1 hw2).call ?_
  (try (simp (disch := first | omega | (simp <;> omega) | fail) only [push_cast, ↓reduceIte, Nat.reduceEqDiff, Nat.reduceAdd, Nat.reduceMul, Nat.reduceSub, Nat.reduceLT, Int.reduceToNat]))
  refine (c_spec_TrieRank (cpTr t) s).call ?_
  obtain ⟨n, cc, hv⟩ := isZT_rk (t := cpTr t) (s := s)
  have himp := c_impl_TrieRank (cpTr t) s
  rw [hv] at himp ⊢
  (try (simp (disch := first | omega | (simp <;> omega) | fail) only [push_cast, ↓reduceIte, Nat.reduceEqDiff, Nat.reduceAdd, Nat.reduceMul, Nat.reduceSub, Nat.reduceLT, Int.reduceToNat]))
  refine (c_laws_toTrie t hw1 hw2).call ?_
  (try (simp (disch := first | omega | (simp <;> omega) | fail) only [push_cast, ↓reduceIte, Nat.reduceEqDiff, Nat.reduceAdd, Nat.reduceMul, Nat.reduceSub, Nat.reduceLT, Int.reduceToNat]))
  refine himp.call ?_
  cases cc
  all_goals
    (try (simp (disch := first | omega | (simp <;> omega) | fail) only [push_cast, ↓reduceIte, Nat.reduceEqDiff, Nat.reduceAdd, Nat.reduceMul, Nat.reduceSub, Nat.reduceLT, Int.reduceToNat]))
    refine (c_laws_toTrie t hw1 hw2).call ?_
    (try (simp (disch := first | omega | (simp <;> omega) | fail) only [push_cast, ↓reduceIte, Nat.reduceEqDiff, Nat.reduceAdd, Nat.reduceMul, Nat.reduceSub, Nat.reduceLT, Int.reduceToNat]))
    refine (c_laws_eqTrie (cpTr t)).call ?_
    (try (simp (disch := first | omega | (simp <;> omega) | fail) only [push_cast, ↓reduceIte, Nat.reduceEqDiff, Nat.reduceAdd, Nat.reduceMul, Nat.reduceSub, Nat.reduceLT, Int.reduceToNat]))

end Go.Proofs.YtidhhiecgehgfaaGreat.M
