/-
  What the functions return.
-/
import Derived.Test.YtidhhiecgehgfaaGreatFzc
import Derived.Test.YtidhhiecgehgfaaGreatCy
namespace Go.Proofs.YtidhhiecgehgfaaGreat.M
open Go Go.RowKit
set_option linter.unusedVariables false
set_option linter.unusedSimpArgs false
set_option maxRecDepth 4000

theorem c_laws_szIntS (a : Option (List Int)) (left : Int) (hl0 : 0 ≤ left) (hleft : left ≤ 1048576) : Fn Tryz.prog 87 [eI a, .int .i64 left] (· = .int .i64 (szv left (lI a).length)) := by
  refine Fn.of free_int fun h => ?_
  refine enter (by kernel_rfl) e87 (by kernel_rfl) rfl fun hok => ?_
  simp only [r87, initEnv_2]
  have hlen := ok_eI (okV_0 hok)
  (try (simp (disch := first | omega | (simp <;> omega) | fail) only [push_cast, ↓reduceIte, Nat.reduceEqDiff, Nat.reduceAdd, Nat.reduceMul, Nat.reduceSub, Nat.reduceLT, Int.reduceToNat]))
  first | refine goC_split (fun hc => ?_) (fun hc => ?_) | refine cnd_split (fun hc => ?_) (fun hc => ?_)
  · (try (simp only [decide_eq_true_eq, decide_eq_false_iff_not, Bool.not_eq_true', Bool.not_eq_false', Bool.and_eq_true, Bool.or_eq_true, Int.not_lt, Int.not_le] at hc)); (try (simp (disch := first | omega | (simp <;> omega) | fail) only [push_cast, ↓reduceIte, Nat.reduceEqDiff, Nat.reduceAdd, Nat.reduceMul, Nat.reduceSub, Nat.reduceLT, Int.reduceToNat]))
    rw [szv, if_neg (by omega)]
  · (try (simp only [decide_eq_true_eq, decide_eq_false_iff_not, Bool.not_eq_true', Bool.not_eq_false', Bool.and_eq_true, Bool.or_eq_true, Int.not_lt, Int.not_le] at hc)); (try (simp (disch := first | omega | (simp <;> omega) | fail) only [push_cast, ↓reduceIte, Nat.reduceEqDiff, Nat.reduceAdd, Nat.reduceMul, Nat.reduceSub, Nat.reduceLT, Int.reduceToNat]))
    rw [szv, if_pos (by omega)]

theorem c_laws_szBits (b : Bt) (left : Int) (hl0 : 0 ≤ left) (hleft : left ≤ 1048576) : Fn Tryz.prog 52 [eB b, .int .i64 left] (· = .int .i64 (szv left (lI b.words).length)) := by
  refine Fn.of free_int fun h => ?_
  refine enter (by kernel_rfl) e52 (by kernel_rfl) rfl fun hok => ?_
  simp only [r52, initEnv_2]
  (try (simp (disch := first | omega | (simp <;> omega) | fail) only [push_cast, ↓reduceIte, Nat.reduceEqDiff, Nat.reduceAdd, Nat.reduceMul, Nat.reduceSub, Nat.reduceLT, Int.reduceToNat]))
  refine (c_laws_szIntS _ _ hl0 hleft).call ?_
  (try (simp (disch := first | omega | (simp <;> omega) | fail) only [push_cast, ↓reduceIte, Nat.reduceEqDiff, Nat.reduceAdd, Nat.reduceMul, Nat.reduceSub, Nat.reduceLT, Int.reduceToNat]))
  first | refine goC_split (fun hc => ?_) (fun hc => ?_) | refine cnd_split (fun hc => ?_) (fun hc => ?_)
  · (try (simp only [decide_eq_true_eq, decide_eq_false_iff_not, Bool.not_eq_true', Bool.not_eq_false', Bool.and_eq_true, Bool.or_eq_true, Int.not_lt, Int.not_le] at hc)); (try (simp (disch := first | omega | (simp <;> omega) | fail) only [push_cast, ↓reduceIte, Nat.reduceEqDiff, Nat.reduceAdd, Nat.reduceMul, Nat.reduceSub, Nat.reduceLT, Int.reduceToNat]))
    unfold szv at hc ⊢
    split at hc
    · omega
    · rename_i hn
      rw [if_neg hn]
  · (try (simp only [decide_eq_true_eq, decide_eq_false_iff_not, Bool.not_eq_true', Bool.not_eq_false', Bool.and_eq_true, Bool.or_eq_true, Int.not_lt, Int.not_le] at hc)); (try (simp (disch := first | omega | (simp <;> omega) | fail) only [push_cast, ↓reduceIte, Nat.reduceEqDiff, Nat.reduceAdd, Nat.reduceMul, Nat.reduceSub, Nat.reduceLT, Int.reduceToNat]))

theorem c_laws_szTrie (t : Tr) (left : Int) (hl0 : 0 ≤ left) (hleft : left ≤ 1048576) (hlab : t.lab.length ≤ 9223372036854775807) : Fn Tryz.prog 12 [eTr t, .int .i64 left] (· = .int .i64 (szv left ((lI t.sh.words).length + (lI t.en.words).length + t.lab.length))) := by
  refine Fn.of free_int fun h => ?_
  refine enter (by kernel_rfl) e12 (by kernel_rfl) rfl fun hok => ?_
  simp only [r12, initEnv_2]
  (try (simp (disch := first | omega | (simp <;> omega) | fail) only [push_cast, ↓reduceIte, Nat.reduceEqDiff, Nat.reduceAdd, Nat.reduceMul, Nat.reduceSub, Nat.reduceLT, Int.reduceToNat]))
  refine (c_laws_szBits t.sh left hl0 hleft).call ?_
  (try (simp (disch := first | omega | (simp <;> omega) | fail) only [push_cast, ↓reduceIte, Nat.reduceEqDiff, Nat.reduceAdd, Nat.reduceMul, Nat.reduceSub, Nat.reduceLT, Int.reduceToNat]))
  first | refine goC_split (fun hc => ?_) (fun hc => ?_) | refine cnd_split (fun hc => ?_) (fun hc => ?_)
  · (try (simp only [decide_eq_true_eq, decide_eq_false_iff_not, Bool.not_eq_true', Bool.not_eq_false', Bool.and_eq_true, Bool.or_eq_true, Int.not_lt, Int.not_le] at hc)); (try (simp (disch := first | omega | (simp <;> omega) | fail) only [push_cast, ↓reduceIte, Nat.reduceEqDiff, Nat.reduceAdd, Nat.reduceMul, Nat.reduceSub, Nat.reduceLT, Int.reduceToNat]))
    unfold szv at hc ⊢
    split at hc
    · omega
    · rw [if_neg (by omega)]
  (try (simp only [decide_eq_true_eq, decide_eq_false_iff_not, Bool.not_eq_true', Bool.not_eq_false', Bool.and_eq_true, Bool.or_eq_true, Int.not_lt, Int.not_le] at hc)); (try (simp (disch := first | omega | (simp <;> omega) | fail) only [push_cast, ↓reduceIte, Nat.reduceEqDiff, Nat.reduceAdd, Nat.reduceMul, Nat.reduceSub, Nat.reduceLT, Int.reduceToNat]))
  refine (c_laws_szBits t.en _ hc (by unfold szv; split <;> omega)).call ?_
  (try (simp (disch := first | omega | (simp <;> omega) | fail) only [push_cast, ↓reduceIte, Nat.reduceEqDiff, Nat.reduceAdd, Nat.reduceMul, Nat.reduceSub, Nat.reduceLT, Int.reduceToNat]))
  first | refine goC_split (fun hd => ?_) (fun hd => ?_) | refine cnd_split (fun hd => ?_) (fun hd => ?_)
  · (try (simp only [decide_eq_true_eq, decide_eq_false_iff_not, Bool.not_eq_true', Bool.not_eq_false', Bool.and_eq_true, Bool.or_eq_true, Int.not_lt, Int.not_le] at hd)); (try (simp (disch := first | omega | (simp <;> omega) | fail) only [push_cast, ↓reduceIte, Nat.reduceEqDiff, Nat.reduceAdd, Nat.reduceMul, Nat.reduceSub, Nat.reduceLT, Int.reduceToNat]))
    unfold szv at hc hd ⊢
    split at hc
    · split at hd
      · omega
      · rw [if_neg (by omega)]
    · omega
  (try (simp only [decide_eq_true_eq, decide_eq_false_iff_not, Bool.not_eq_true', Bool.not_eq_false', Bool.and_eq_true, Bool.or_eq_true, Int.not_lt, Int.not_le] at hd)); (try (simp (disch := first | omega | (simp <;> omega) | fail) only [push_cast, ↓reduceIte, Nat.reduceEqDiff, Nat.reduceAdd, Nat.reduceMul, Nat.reduceSub, Nat.reduceLT, Int.reduceToNat]))
  have hv2 : szv (szv left (lI t.sh.words).length) (lI t.en.words).length = left - (lI t.sh.words).length - (lI t.en.words).length ∧ (lI t.sh.words).length + (lI t.en.words).length ≤ left := by
    unfold szv at hc hd ⊢
    split at hc
    · rename_i h1
      rw [if_pos h1] at hd ⊢
      split at hd
      · rename_i h2
        rw [if_pos h2]
        omega
      · omega
    · omega
  rw [hv2.1]
  clear hd hc
  (try (simp (disch := first | omega | (simp <;> omega) | fail) only [push_cast, ↓reduceIte, Nat.reduceEqDiff, Nat.reduceAdd, Nat.reduceMul, Nat.reduceSub, Nat.reduceLT, Int.reduceToNat]))
  first | refine goC_split (fun hd => ?_) (fun hd => ?_) | refine cnd_split (fun hd => ?_) (fun hd => ?_)
  · (try (simp only [decide_eq_true_eq, decide_eq_false_iff_not, Bool.not_eq_true', Bool.not_eq_false', Bool.and_eq_true, Bool.or_eq_true, Int.not_lt, Int.not_le] at hd)); (try (simp (disch := first | omega | (simp <;> omega) | fail) only [push_cast, ↓reduceIte, Nat.reduceEqDiff, Nat.reduceAdd, Nat.reduceMul, Nat.reduceSub, Nat.reduceLT, Int.reduceToNat]))
    unfold szv
    rw [if_neg (by omega)]
  · (try (simp only [decide_eq_true_eq, decide_eq_false_iff_not, Bool.not_eq_true', Bool.not_eq_false', Bool.and_eq_true, Bool.or_eq_true, Int.not_lt, Int.not_le] at hd)); (try (simp (disch := first | omega | (simp <;> omega) | fail) only [push_cast, ↓reduceIte, Nat.reduceEqDiff, Nat.reduceAdd, Nat.reduceMul, Nat.reduceSub, Nat.reduceLT, Int.reduceToNat]))
    unfold szv
    rw [if_pos (by omega)]
    have : left - (lI t.sh.words).length - (lI t.en.words).length - (t.lab.length : Int) = left - (((lI t.sh.words).length + (lI t.en.words).length + t.lab.length : Nat) : Int) := by omega
    rw [this]

theorem c_laws_toIntS_o (a : Option (List Int)) (ha : (lI a).length ≤ 1048576) : FnO Tryz.prog 89 [eI a] (· = eI (some (lI a))) := by
  intro h
  refine enter (by kernel_rfl) e89 (by kernel_rfl) rfl fun hok => ?_
  simp only [r89, initEnv_1]
  (try (simp (disch := first | omega | (simp <;> omega) | fail) only [push_cast, ↓reduceIte, Nat.reduceEqDiff, Nat.reduceAdd, Nat.reduceMul, Nat.reduceSub, Nat.reduceLT, Int.reduceToNat]))
  refine T_for (lI a).length (fun i e h' => Pins e [(0, eI a), (3, .sl h.length 0 1 (lI a).length (lI a).length), (4, .int .i64 i)] ∧ h' = h ++ [some (.cells (fill (.int .i64) (lI a) (.int .i64 0) i))]) ?_ ?_
  · (try (simp (disch := first | omega | (simp <;> omega) | fail) only [push_cast, ↓reduceIte, Nat.reduceEqDiff, Nat.reduceAdd, Nat.reduceMul, Nat.reduceSub, Nat.reduceLT, Int.reduceToNat, fill_0]))
  rintro i e h' hi ⟨hp, rfl⟩
  refine T_pins hp fun e => ?_
  (try (simp (disch := first | omega | (simp <;> omega) | fail) only [push_cast, ↓reduceIte, Nat.reduceEqDiff, Nat.reduceAdd, Nat.reduceMul, Nat.reduceSub, Nat.reduceLT, Int.reduceToNat]))
  first | refine goC_split (fun hc => ?_) (fun hc => ?_) | refine cnd_split (fun hc => ?_) (fun hc => ?_)
  · (try (simp only [decide_eq_true_eq, decide_eq_false_iff_not, Bool.not_eq_true', Bool.not_eq_false', Bool.and_eq_true, Bool.or_eq_true, Int.not_lt, Int.not_le] at hc)); (try (simp (disch := first | omega | (simp <;> omega) | fail) only [push_cast, ↓reduceIte, Nat.reduceEqDiff, Nat.reduceAdd, Nat.reduceMul, Nat.reduceSub, Nat.reduceLT, Int.reduceToNat]))
    (try (simp (disch := first | omega | (simp <;> omega) | fail) only [push_cast, ↓reduceIte, Nat.reduceEqDiff, Nat.reduceAdd, Nat.reduceMul, Nat.reduceSub, Nat.reduceLT, Int.reduceToNat, fill_len hi]))
    rw [fill_next (d := 0) (by omega) rfl]
  · (try (simp only [decide_eq_true_eq, decide_eq_false_iff_not, Bool.not_eq_true', Bool.not_eq_false', Bool.and_eq_true, Bool.or_eq_true, Int.not_lt, Int.not_le] at hc)); (try (simp (disch := first | omega | (simp <;> omega) | fail) only [push_cast, ↓reduceIte, Nat.reduceEqDiff, Nat.reduceAdd, Nat.reduceMul, Nat.reduceSub, Nat.reduceLT, Int.reduceToNat]))
    rw [fill_all (by omega)]
    exact ⟨_, ow_map (fun _ => rfl) (by rw [cells_h0]; rfl) rfl (Nat.le_refl _), rfl⟩
theorem c_laws_toIntS (a : Option (List Int)) (ha : (lI a).length ≤ 1048576) : Fn Tryz.prog 89 [eI a] (· = eI (some (lI a))) := (c_laws_toIntS_o a ha).fn

theorem c_laws_toBits_o (b : Bt) (ha : (lI b.words).length ≤ 1048576) : FnO Tryz.prog 56 [eB b] (· = eB (cpB b)) := by
  intro h
  refine enter (by kernel_rfl) e56 (by kernel_rfl) rfl fun hok => ?_
  simp only [r56, initEnv_1]
  (try (simp (disch := first | omega | (simp <;> omega) | fail) only [push_cast, ↓reduceIte, Nat.reduceEqDiff, Nat.reduceAdd, Nat.reduceMul, Nat.reduceSub, Nat.reduceLT, Int.reduceToNat]))
  refine (c_laws_toIntS_o _ ha).use fun x t l hR how => ?_
  subst hR
  obtain ⟨bb, rfl⟩ := Ow.sl1 (show Ow _ [x] [.ro 1 _ _] _ from how)
  (try (simp (disch := first | omega | (simp <;> omega) | fail) only [push_cast, ↓reduceIte, Nat.reduceEqDiff, Nat.reduceAdd, Nat.reduceMul, Nat.reduceSub, Nat.reduceLT, Int.reduceToNat]))
  refine ⟨_, (Ow.atom rfl (how.shift (fun c hc => ?_) (by simp))).aggOf, rfl⟩
  rw [List.append_assoc]
  exact tl_k (p := [_, _, _]) (q := [_, _, _]) rfl (by simpa using hc)
theorem c_laws_toBits (b : Bt) (ha : (lI b.words).length ≤ 1048576) : Fn Tryz.prog 56 [eB b] (· = eB (cpB b)) := (c_laws_toBits_o b ha).fn

def cpTr (t : Tr) : Tr := ⟨cpB t.sh, cpB t.en, t.lab⟩

theorem c_laws_toTrie (t : Tr) (h1 : (lI t.sh.words).length ≤ 1048576) (h2 : (lI t.en.words).length ≤ 1048576) : Fn Tryz.prog 14 [eTr t] (· = eTr (cpTr t)) := by
  refine Fn.of free_eTr fun h => ?_
  refine enter (by kernel_rfl) e14 (by kernel_rfl) rfl fun hok => ?_
  simp only [r14, initEnv_1]
  (try (simp (disch := first | omega | (simp <;> omega) | fail) only [push_cast, ↓reduceIte, Nat.reduceEqDiff, Nat.reduceAdd, Nat.reduceMul, Nat.reduceSub, Nat.reduceLT, Int.reduceToNat]))
  refine (c_laws_toBits t.sh h1).call ?_
  (try (simp (disch := first | omega | (simp <;> omega) | fail) only [push_cast, ↓reduceIte, Nat.reduceEqDiff, Nat.reduceAdd, Nat.reduceMul, Nat.reduceSub, Nat.reduceLT, Int.reduceToNat]))
  refine (c_laws_toBits t.en h2).call ?_
  (try (simp (disch := first | omega | (simp <;> omega) | fail) only [push_cast, ↓reduceIte, Nat.reduceEqDiff, Nat.reduceAdd, Nat.reduceMul, Nat.reduceSub, Nat.reduceLT, Int.reduceToNat]))
  all_goals (try rfl)
theorem c_laws_toTrie_o (t : Tr) (h1 : (lI t.sh.words).length ≤ 1048576) (h2 : (lI t.en.words).length ≤ 1048576) : FnO Tryz.prog 14 [eTr t] (· = eTr (cpTr t)) := by
  intro h
  refine enter (by kernel_rfl) e14 (by kernel_rfl) rfl fun hok => ?_
  simp only [r14, initEnv_1]
  (try (simp (disch := first | omega | (simp <;> omega) | fail) only [push_cast, ↓reduceIte, Nat.reduceEqDiff, Nat.reduceAdd, Nat.reduceMul, Nat.reduceSub, Nat.reduceLT, Int.reduceToNat]))
  refine (c_laws_toBits_o t.sh h1).use fun x t1 l hR how => ?_
  subst hR
  obtain ⟨w1, F1, rfl, f1, f2, f3, f4, _⟩ := ow_bt how
  (try (simp (disch := first | omega | (simp <;> omega) | fail) only [push_cast, ↓reduceIte, Nat.reduceEqDiff, Nat.reduceAdd, Nat.reduceMul, Nat.reduceSub, Nat.reduceLT, Int.reduceToNat, f3, f4]))
  refine (c_laws_toBits_o t.en h2).use fun x t2 l2 hR how2 => ?_
  subst hR
  obtain ⟨w2, F2, rfl, k1, k2, k3, k4, _⟩ := ow_bt how2
  (try (simp (disch := first | omega | (simp <;> omega) | fail) only [push_cast, ↓reduceIte, Nat.reduceEqDiff, Nat.reduceAdd, Nat.reduceMul, Nat.reduceSub, Nat.reduceLT, Int.reduceToNat, f3, f4, k3, k4]))
  refine ⟨_, ow_tr (n0 := h.length) (f1.frame fun c hc => ?_) (k1.frame fun c hc => ?_) (fun c hc => ?_) (fun c hc => ⟨?_, fun hh => ?_⟩), rfl⟩
  · have h5 := f2 c hc
    have h6 := h5.1
    have h7 := h5.2
    rw [List.append_assoc]
    exact tl_k2 (p := [_, _, _]) (q := [_, _, _]) rfl (by simpa using h6) (by simp at h7 ⊢; omega)
  · have h5 := (k2 c hc).1
    rw [List.append_assoc]
    exact tl_k (p := [_, _, _]) (q := [_, _, _]) rfl (by simp at h5 ⊢; omega)
  · have h5 := (f2 c hc).1
    simp at h5
    omega
  · have h5 := (k2 c hc).1
    simp at h5
    omega
  · have h5 := (k2 c hc).1
    have h6 := (f2 c hh).2
    simp at h5 h6
    omega

def zF : AV := .tup [.int .i64 0, .bool false]
def paV (t : Tr) (i : Int) : AV := match trV t with
  | some K => if 1 ≤ i ∧ i ≤ ((nodesK K).length : Int) - 1 then .tup [.int .i64 (fndI (nodesK K) (((nodesK K).getD i.toNat []).take (((nodesK K).getD i.toNat []).length - 1))), .bool true] else zF
  | none => zF
def chR (N : List Str) (s : Str) : AV := if fndI N s < 0 then zF else .tup [.int .i64 (fndI N s), .bool true]
def chV (t : Tr) (i c : Int) : AV := match trV t with
  | some K => if (0 ≤ i ∧ i ≤ ((nodesK K).length : Int) - 1) ∧ (0 ≤ c ∧ c ≤ 255) then chR (nodesK K) ((nodesK K).getD i.toNat [] ++ [UInt8.ofNat c.toNat]) else zF
  | none => zF
def txV (t : Tr) (s : Str) : AV := match trV t with
  | some K => if s ∈ K then .tup [.int .i64 (fndI ((nodesK K).filter fun x => decide (x ∈ K)) s), .bool true] else zF
  | none => zF
def rkV (t : Tr) (s : Str) : AV := match trV t with
  | some K => .tup [.int .i64 (rkS K s), .bool true]
  | none => zF
def KyR (t : Tr) (p : Str → Bool) (v : AV) : Prop := ∃ o b, v = .tup [eS o, .bool b] ∧ ((b = true ∧ ∃ K, trV t = some K ∧ lS o = K.filter p) ∨ (b = false ∧ trV t = none ∧ lS o = []))
def okV (t : Tr) : AV := match trV t with
  | some K => .tup [eS (some (nodesK K)), .bool true]
  | none => .tup [.nils, .bool false]
theorem trV_ok {t : Tr} {K : List Str} (h : trV t = some K) : okKeys K = true ∧ K.length ≤ 40 := ⟨(trV_some h).keys, (okKeys_all (trV_some h).keys).2.2⟩
theorem KyR.no {t : Tr} {p : Str → Bool} (h : trV t = none) : KyR t p (.tup [.nils, .bool false]) := ⟨none, false, rfl, .inr ⟨rfl, h, rfl⟩⟩

theorem c_spec_trByNode (o : Option (List Str)) (hl : (lS o).length ≤ 40) : Fn Tryz.prog 63 [eS o] (fun v => ∃ o', v = eS o' ∧ lS o' = (nodesK (lS o)).filter fun x => decide (x ∈ lS o)) := by
  refine Fn.froze_ fun h => ?_
  refine enter (by kernel_rfl) e63 (by kernel_rfl) rfl fun hok => ?_
  simp only [r63, initEnv_1]
  have hN1 := nodesK_cap hl
  have hN := c_spec_trNodes o hl
  generalize nodesK (lS o) = N at *
  have hlN : lS (some N) = N := rfl
  have hlNl : (lS (some N)).length = N.length := rfl
  (try (simp (disch := first | omega | (simp <;> omega) | fail) only [push_cast, ↓reduceIte, Nat.reduceEqDiff, Nat.reduceAdd, Nat.reduceMul, Nat.reduceSub, Nat.reduceLT, Int.reduceToNat]))
  refine hN.call ?_
  (try (simp (disch := first | omega | (simp <;> omega) | fail) only [push_cast, ↓reduceIte, Nat.reduceEqDiff, Nat.reduceAdd, Nat.reduceMul, Nat.reduceSub, Nat.reduceLT, Int.reduceToNat, hlN]))
  refine T_for N.length (fun k e h' => ∃ v, Pins e [(0, eS o), (3, v), (7, eS (some N)), (8, .int .i64 N.length), (9, .int .i64 k)] ∧ GsI AV.str h.length h' v ((N.take k).filter fun x => decide (x ∈ lS o)) ∧ ((N.take k).filter fun x => decide (x ∈ lS o)).length ≤ k) ?_ ?_
  · refine ⟨.nils, ?_⟩
    (try (simp (disch := first | omega | (simp <;> omega) | fail) only [push_cast, ↓reduceIte, Nat.reduceEqDiff, Nat.reduceAdd, Nat.reduceMul, Nat.reduceSub, Nat.reduceLT, Int.reduceToNat, hlN]))
    all_goals (try exact ⟨GsI.nil (Nat.le_refl _), by simp⟩)
    all_goals (try exact GsI.nil (Nat.le_refl _))
  rintro k e h' hk ⟨v, hp, hs, hle⟩
  refine T_pins hp fun e => ?_
  (try (simp (disch := first | omega | (simp <;> omega) | fail) only [push_cast, ↓reduceIte, Nat.reduceEqDiff, Nat.reduceAdd, Nat.reduceMul, Nat.reduceSub, Nat.reduceLT, Int.reduceToNat, hlN]))
  first | refine goC_split (fun hc => ?_) (fun hc => ?_) | refine cnd_split (fun hc => ?_) (fun hc => ?_)
  · (try (simp only [decide_eq_true_eq, decide_eq_false_iff_not, Bool.not_eq_true', Bool.not_eq_false', Bool.and_eq_true, Bool.or_eq_true, Int.not_lt, Int.not_le] at hc)); (try (simp (disch := first | omega | (simp <;> omega) | fail) only [push_cast, ↓reduceIte, Nat.reduceEqDiff, Nat.reduceAdd, Nat.reduceMul, Nat.reduceSub, Nat.reduceLT, Int.reduceToNat]))
    have hk2 : k < N.length := by omega
    have htk : N.take (k + 1) = N.take k ++ [N.getD k []] := by
      rw [List.take_add_one]
      simp [hk2]
    obtain ⟨s, hs2⟩ : ∃ s, s = N.getD k [] := ⟨_, rfl⟩
    rw [← hs2] at htk
    (try (simp (disch := first | omega | (simp <;> omega) | fail) only [push_cast, ↓reduceIte, Nat.reduceEqDiff, Nat.reduceAdd, Nat.reduceMul, Nat.reduceSub, Nat.reduceLT, Int.reduceToNat, hlN, ← hs2]))
    refine (c_spec_l1HasS o s).call ?_
    by_cases hm : s ∈ lS o
    · have e1 : (N.take (k + 1)).filter (fun x => decide (x ∈ lS o)) = (N.take k).filter (fun x => decide (x ∈ lS o)) ++ [s] := by
        rw [htk, List.filter_append]
        simp [hm]
      rw [decide_eq_true hm]
      (try (simp (disch := first | omega | (simp <;> omega) | fail) only [push_cast, ↓reduceIte, Nat.reduceEqDiff, Nat.reduceAdd, Nat.reduceMul, Nat.reduceSub, Nat.reduceLT, Int.reduceToNat]))
      refine hs.app (by_ := 16) (fun c hc => by first | exact Or.inr (by omega) | exact ⟨Or.inr (by omega), by omega⟩) (Nat.le_trans hle (by omega)) (by decide) fun v' h'' q1 q2 q3 => ?_
      have hl2 : ((N.take k).filter (fun x => decide (x ∈ lS o)) ++ [s]).length ≤ k + 1 := by simp; omega
      rw [← e1] at q1 hl2
      (try (simp (disch := first | omega | (simp <;> omega) | fail) only [push_cast, ↓reduceIte, Nat.reduceEqDiff, Nat.reduceAdd, Nat.reduceMul, Nat.reduceSub, Nat.reduceLT, Int.reduceToNat]))
      all_goals (try exact ⟨_, rfl, q1⟩)
      all_goals (try exact ⟨_, rfl, q1, hl2⟩)
      all_goals (try exact ⟨q1, hl2⟩)
    · have e1 : (N.take (k + 1)).filter (fun x => decide (x ∈ lS o)) = (N.take k).filter (fun x => decide (x ∈ lS o)) := by
        rw [htk, List.filter_append]
        simp [hm]
      rw [decide_eq_false hm]
      rw [← e1] at hs hle
      (try (simp (disch := first | omega | (simp <;> omega) | fail) only [push_cast, ↓reduceIte, Nat.reduceEqDiff, Nat.reduceAdd, Nat.reduceMul, Nat.reduceSub, Nat.reduceLT, Int.reduceToNat]))
      all_goals (try exact ⟨_, rfl, hs⟩)
      all_goals (try exact ⟨_, rfl, hs, by omega⟩)
  · (try (simp only [decide_eq_true_eq, decide_eq_false_iff_not, Bool.not_eq_true', Bool.not_eq_false', Bool.and_eq_true, Bool.or_eq_true, Int.not_lt, Int.not_le] at hc)); (try (simp (disch := first | omega | (simp <;> omega) | fail) only [push_cast, ↓reduceIte, Nat.reduceEqDiff, Nat.reduceAdd, Nat.reduceMul, Nat.reduceSub, Nat.reduceLT, Int.reduceToNat]))
    have hke : k = N.length := by omega
    subst hke
    rw [List.take_length] at hs
    obtain ⟨o', w, l4⟩ := hs.vwS (n := h.length) (Nat.le_refl _)
    have hfin : ∃ t, Vw h' h.length v t ∧ ∃ o', t = eS o' ∧ lS o' = N.filter fun x => decide (x ∈ lS o) := ⟨_, w, o', rfl, l4⟩
    (try (simp (disch := first | omega | (simp <;> omega) | fail) only [push_cast, ↓reduceIte, Nat.reduceEqDiff, Nat.reduceAdd, Nat.reduceMul, Nat.reduceSub, Nat.reduceLT, Int.reduceToNat]))
    all_goals (try exact hfin)

theorem c_spec_trFind (o : Option (List Str)) (s : Str) : Fn Tryz.prog 55 [eS o, .str s] (· = .int .i64 (fndI (lS o) s)) := by
  refine Fn.of free_int fun h => ?_
  refine enter (by kernel_rfl) e55 (by kernel_rfl) rfl fun hok => ?_
  simp only [r55, initEnv_2]
  have hlen := ok_eS (okV_0 hok)
  (try (simp (disch := first | omega | (simp <;> omega) | fail) only [push_cast, ↓reduceIte, Nat.reduceEqDiff, Nat.reduceAdd, Nat.reduceMul, Nat.reduceSub, Nat.reduceLT, Int.reduceToNat]))
  refine T_for (lS o).length (fun i e h' => Pins e [(1, .str s), (7, eS o), (8, .int .i64 (lS o).length), (9, .int .i64 i)] ∧ h' = h ∧ s ∉ (lS o).take i) ?_ ?_
  · (try (simp (disch := first | omega | (simp <;> omega) | fail) only [push_cast, ↓reduceIte, Nat.reduceEqDiff, Nat.reduceAdd, Nat.reduceMul, Nat.reduceSub, Nat.reduceLT, Int.reduceToNat]))
    all_goals (try simp)
  rintro i e h' hi ⟨hp, rfl, ha⟩
  refine T_pins hp fun e => ?_
  (try (simp (disch := first | omega | (simp <;> omega) | fail) only [push_cast, ↓reduceIte, Nat.reduceEqDiff, Nat.reduceAdd, Nat.reduceMul, Nat.reduceSub, Nat.reduceLT, Int.reduceToNat]))
  first | refine goC_split (fun hc => ?_) (fun hc => ?_) | refine cnd_split (fun hc => ?_) (fun hc => ?_)
  · (try (simp only [decide_eq_true_eq, decide_eq_false_iff_not, Bool.not_eq_true', Bool.not_eq_false', Bool.and_eq_true, Bool.or_eq_true, Int.not_lt, Int.not_le] at hc)); (try (simp (disch := first | omega | (simp <;> omega) | fail) only [push_cast, ↓reduceIte, Nat.reduceEqDiff, Nat.reduceAdd, Nat.reduceMul, Nat.reduceSub, Nat.reduceLT, Int.reduceToNat]))
    have hi2 : i < (lS o).length := by omega
    have htk : (lS o).take (i + 1) = (lS o).take i ++ [(lS o).getD i []] := by
      rw [List.take_add_one]
      simp [hi2]
    by_cases hx : (lS o).getD i [] = s
    · rw [idx_at hi2 hx ha]
      (try (simp (disch := first | omega | (simp <;> omega) | fail) only [push_cast, ↓reduceIte, Nat.reduceEqDiff, Nat.reduceAdd, Nat.reduceMul, Nat.reduceSub, Nat.reduceLT, Int.reduceToNat, hx]))
    · have hn : s ∉ (lS o).take (i + 1) := by
        rw [htk, List.mem_append, List.mem_singleton]
        exact fun h5 => h5.elim ha fun h7 => hx h7.symm
      (try (simp (disch := first | omega | (simp <;> omega) | fail) only [push_cast, ↓reduceIte, Nat.reduceEqDiff, Nat.reduceAdd, Nat.reduceMul, Nat.reduceSub, Nat.reduceLT, Int.reduceToNat, hx]))
      all_goals (try exact hn)
  · (try (simp only [decide_eq_true_eq, decide_eq_false_iff_not, Bool.not_eq_true', Bool.not_eq_false', Bool.and_eq_true, Bool.or_eq_true, Int.not_lt, Int.not_le] at hc)); (try (simp (disch := first | omega | (simp <;> omega) | fail) only [push_cast, ↓reduceIte, Nat.reduceEqDiff, Nat.reduceAdd, Nat.reduceMul, Nat.reduceSub, Nat.reduceLT, Int.reduceToNat]))
    have hie : i = (lS o).length := by omega
    subst hie
    rw [List.take_length] at ha
    rw [fnd_no ha]
    (try (simp (disch := first | omega | (simp <;> omega) | fail) only [push_cast, ↓reduceIte, Nat.reduceEqDiff, Nat.reduceAdd, Nat.reduceMul, Nat.reduceSub, Nat.reduceLT, Int.reduceToNat]))

theorem c_spec_TrieIndex (t : Tr) (s : Str) : Fn Tryz.prog 19 [eTr t, .str s] (· = txV t s) := by
  have hfz : Free zF := free_tup (free_cons_ free_int (free_cons_ free_bool free_nil_))
  refine Fn.of (by unfold txV; split <;> (try split) <;> first | exact hfz | exact free_tup (free_cons_ free_int (free_cons_ free_bool free_nil_))) fun h => ?_
  clear hfz
  refine enter (by kernel_rfl) e19 (by kernel_rfl) rfl fun hok => ?_
  simp only [r19, initEnv_2]
  have hk := c_spec_trKeys t
  have hkk := fun K => @trV_ok t K
  have hpv : txV t s = match trV t with | some K => if s ∈ K then .tup [.int .i64 (fndI ((nodesK K).filter fun x => decide (x ∈ K)) s), .bool true] else zF | none => zF := rfl
  generalize txV t s = R at hpv
  obtain ⟨⟨ss, sw⟩, ⟨es, ew⟩, lab⟩ := t
  (try (simp (disch := first | omega | (simp <;> omega) | fail) only [push_cast, ↓reduceIte, Nat.reduceEqDiff, Nat.reduceAdd, Nat.reduceMul, Nat.reduceSub, Nat.reduceLT, Int.reduceToNat]))
  refine hk.use fun x hx => ?_
  obtain ⟨o, b, rfl, ⟨rfl, hx⟩ | ⟨rfl, hx⟩⟩ := hx
  · rw [hx] at hpv
    simp only at hpv
    have hKo := hkk _ hx
    (try (simp (disch := first | omega | (simp <;> omega) | fail) only [push_cast, ↓reduceIte, Nat.reduceEqDiff, Nat.reduceAdd, Nat.reduceMul, Nat.reduceSub, Nat.reduceLT, Int.reduceToNat]))
    refine (c_spec_l1HasS o s).call ?_
    by_cases hm : s ∈ lS o
    · rw [if_pos hm] at hpv
      rw [decide_eq_true hm]
      (try (simp (disch := first | omega | (simp <;> omega) | fail) only [push_cast, ↓reduceIte, Nat.reduceEqDiff, Nat.reduceAdd, Nat.reduceMul, Nat.reduceSub, Nat.reduceLT, Int.reduceToNat]))
      refine (c_spec_trByNode o hKo.2).use fun x hx2 => ?_
      obtain ⟨o', rfl, hl'⟩ := hx2
      (try (simp (disch := first | omega | (simp <;> omega) | fail) only [push_cast, ↓reduceIte, Nat.reduceEqDiff, Nat.reduceAdd, Nat.reduceMul, Nat.reduceSub, Nat.reduceLT, Int.reduceToNat]))
      refine (c_spec_trFind o' s).call ?_
      rw [hl']
      (try (simp (disch := first | omega | (simp <;> omega) | fail) only [push_cast, ↓reduceIte, Nat.reduceEqDiff, Nat.reduceAdd, Nat.reduceMul, Nat.reduceSub, Nat.reduceLT, Int.reduceToNat, hpv]))
    · rw [if_neg hm] at hpv
      rw [decide_eq_false hm]
      (try (simp (disch := first | omega | (simp <;> omega) | fail) only [push_cast, ↓reduceIte, Nat.reduceEqDiff, Nat.reduceAdd, Nat.reduceMul, Nat.reduceSub, Nat.reduceLT, Int.reduceToNat, hpv, zF]))
  · rw [hx] at hpv
    simp only at hpv
    (try (simp (disch := first | omega | (simp <;> omega) | fail) only [push_cast, ↓reduceIte, Nat.reduceEqDiff, Nat.reduceAdd, Nat.reduceMul, Nat.reduceSub, Nat.reduceLT, Int.reduceToNat, hpv, zF]))

def nF : AV := .tup [.str [], .nils, .bool false]
def naV (t : Tr) (i : Int) : AV := match trV t with
  | some K => if 0 ≤ i ∧ i ≤ ((nodesK K).length : Int) - 1 then .tup [.str ((nodesK K).getD i.toNat []), eS (some (nodesK K)), .bool true] else nF
  | none => nF
theorem ow_nF {h : H} {x : AV} {G : Nat → Prop} (ho : Ow h [x] [nF] G) : x = nF := by
  obtain ⟨cs, rfl, h1⟩ := Ow.openTup (show Ow h [x] [.tup _] G from ho)
  rw [ow_atoms_eqT h1 (by simp [M.atom])]
  rfl
theorem nF_ow {h : H} {G : Nat → Prop} : Ow h [nF] [nF] G := (Ow.atom rfl (.atom rfl (.atom rfl .nil)) : Ow h [.str [], .nils, .bool false] [.str [], .nils, .bool false] G).tupOf
theorem ow_na {h : H} {x : AV} {s : Str} {N : List Str} {G : Nat → Prop} (ho : Ow h [x] [.tup [.str s, eS (some N), .bool true]] G) : ∃ b, x = .tup [.str s, .sl b 0 1 N.length N.length, .bool true] ∧ G b ∧ h.cells b = some (N.map .str) := by
  obtain ⟨cs, rfl, h1⟩ := Ow.openTup ho
  have hl : cs.length = 3 := h1.len.symm
  match cs, hl, h1 with
  | [x1, x2, x3], _, h1 =>
    obtain ⟨_, F, f1, h2, _, e1⟩ := h1.uncons
    obtain ⟨F2, F3, f2, h3, e2, e3⟩ := h2.uncons
    have a1 : x1 = .str s := f1.atomOf rfl
    have a3 : x3 = .bool true := h3.atomOf rfl
    obtain ⟨b, rfl, hb, hc⟩ := ow_strs f2
    subst a1 a3
    exact ⟨b, rfl, (e1 b (e2 b hb)).1, hc⟩
theorem own_zF {n : Nat} : Own n zF := own_tup (own_cons_ own_int (own_cons_ own_bool own_nil_))
theorem own_chR {n : Nat} {N : List Str} {s : Str} : Own n (chR N s) := by
  unfold chR
  split
  · exact own_zF
  · exact own_tup (own_cons_ own_int (own_cons_ own_bool own_nil_))
theorem free_zF : Free zF := free_tup (free_cons_ free_int (free_cons_ free_bool free_nil_))
theorem free_chR {N : List Str} {s : Str} : Free (chR N s) := by
  unfold chR
  split
  · exact free_zF
  · exact free_tup (free_cons_ free_int (free_cons_ free_bool free_nil_))
theorem chR_in {N : List Str} {s : Str} (h : s ∈ N) : chR N s = .tup [.int .i64 (fndI N s), .bool true] := by
  unfold chR
  rw [if_neg (fun h5 => fnd_neg.1 h5 h)]

theorem c_impl_placedAt (o : Option (List Str)) (s : Str) : Fn Tryz.prog 58 [eS o, .str s] (· = chR (lS o) s) := by
  refine Fn.of free_chR fun h => ?_
  refine enter (by kernel_rfl) e58 (by kernel_rfl) rfl fun hok => ?_
  simp only [r58, initEnv_2]
  have hlo := fnd_lo (l := lS o) (s := s)
  have hhi := fnd_hi (l := lS o) (s := s)
  have hlen := ok_eS (okV_0 hok)
  have hch : chR (lS o) s = if fndI (lS o) s < 0 then zF else .tup [.int .i64 (fndI (lS o) s), .bool true] := rfl
  rw [hch]
  (try (simp (disch := first | omega | (simp <;> omega) | fail) only [push_cast, ↓reduceIte, Nat.reduceEqDiff, Nat.reduceAdd, Nat.reduceMul, Nat.reduceSub, Nat.reduceLT, Int.reduceToNat]))
  refine (c_slices_Index_string o s).call ?_
  generalize fndI (lS o) s = k at *
  by_cases hk0 : k < 0
  · rw [if_pos hk0]
    have hk1 : k = -1 := by omega
    subst hk1
    (try (simp (disch := first | omega | (simp <;> omega) | fail) only [push_cast, ↓reduceIte, Nat.reduceEqDiff, Nat.reduceAdd, Nat.reduceMul, Nat.reduceSub, Nat.reduceLT, Int.reduceToNat, zF]))
    done
  · rw [if_neg hk0]
    have hk1 : (0 ≤ k) = True := by simp; omega
    (try (simp (disch := first | omega | (simp <;> omega) | fail) only [push_cast, ↓reduceIte, Nat.reduceEqDiff, Nat.reduceAdd, Nat.reduceMul, Nat.reduceSub, Nat.reduceLT, Int.reduceToNat, hk1]))
    done

def fnV (t : Tr) (s : Str) : AV := match trV t with
  | some K => chR (nodesK K) s
  | none => zF
theorem chR_nil {s : Str} : chR [] s = zF := by
  unfold chR
  rw [if_pos (by rw [fnd_no (by simp)]; decide)]

theorem c_impl_FindNode (t : Tr) (s : Str) : Fn Tryz.prog 35 [eTr t, .str s] (· = fnV t s) := by
  refine Fn.of (by unfold fnV; split <;> first | exact free_zF | exact free_chR) fun h => ?_
  refine enter (by kernel_rfl) e35 (by kernel_rfl) rfl fun hok => ?_
  simp only [r35, initEnv_2]
  have hn := c_impl_Trie_nodes_o t
  have hnv : noV t = match trV t with | some K => eS (some (nodesK K)) | none => .nils := rfl
  have hfv : fnV t s = match trV t with | some K => chR (nodesK K) s | none => zF := rfl
  have hfc := @free_cTr t
  rw [hnv] at hn
  clear hnv
  generalize fnV t s = R at hfv
  have hcb0 : H.cells (h ++ [some (.cells (cTr t))]) h.length = some (cTr t) := by rw [cells_h0]; rfl
  obtain ⟨⟨ss, sw⟩, ⟨es, ew⟩, lab⟩ := t
  (try (simp (disch := first | omega | (simp <;> omega) | fail) only [push_cast, ↓reduceIte, Nat.reduceEqDiff, Nat.reduceAdd, Nat.reduceMul, Nat.reduceSub, Nat.reduceLT, Int.reduceToNat]))
  cases hv : trV ⟨⟨ss, sw⟩, ⟨es, ew⟩, lab⟩ with
  | none =>
    rw [hv] at hn hfv
    simp only at hn hfv
    subst hfv
    refine hn.goL (.adr hcb0 hfc .nil) fun x t' g hR hx how => ?_
    subst hR
    have hxn : x = .nils := how.atomOf rfl
    subst hxn
    (try (simp (disch := first | omega | (simp <;> omega) | fail) only [push_cast, ↓reduceIte, Nat.reduceEqDiff, Nat.reduceAdd, Nat.reduceMul, Nat.reduceSub, Nat.reduceLT, Int.reduceToNat]))
    refine (c_impl_placedAt none s).call ?_
    have hlN : lS none = [] := rfl
    rw [hlN, chR_nil]
    (try (simp (disch := first | omega | (simp <;> omega) | fail) only [push_cast, ↓reduceIte, Nat.reduceEqDiff, Nat.reduceAdd, Nat.reduceMul, Nat.reduceSub, Nat.reduceLT, Int.reduceToNat, zF]))
  | some K =>
    rw [hv] at hn hfv
    simp only at hn hfv
    generalize nodesK K = N at *
    subst hfv
    refine hn.goL (.adr hcb0 hfc .nil) fun x t' g hR hx how => ?_
    subst hR
    obtain ⟨b, rfl, hb0, hcb⟩ := ow_strs how
    (try (simp (disch := first | omega | (simp <;> omega) | fail) only [push_cast, ↓reduceIte, Nat.reduceEqDiff, Nat.reduceAdd, Nat.reduceMul, Nat.reduceSub, Nat.reduceLT, Int.reduceToNat]))
    refine (c_impl_placedAt (some N) s).lendL (.cons (vw_all (Nat.zero_le _) hcb (by simp) (one_map fun _ => rfl) (free_map_ fun _ => free_str)) (.free free_str .nil)) own_chR ?_
    have hlN : lS (some N) = N := rfl
    rw [hlN]
    have hch : chR N s = if fndI N s < 0 then zF else .tup [.int .i64 (fndI N s), .bool true] := rfl
    rw [hch]
    split
    · (try (simp (disch := first | omega | (simp <;> omega) | fail) only [push_cast, ↓reduceIte, Nat.reduceEqDiff, Nat.reduceAdd, Nat.reduceMul, Nat.reduceSub, Nat.reduceLT, Int.reduceToNat, zF]))
    · (try (simp (disch := first | omega | (simp <;> omega) | fail) only [push_cast, ↓reduceIte, Nat.reduceEqDiff, Nat.reduceAdd, Nat.reduceMul, Nat.reduceSub, Nat.reduceLT, Int.reduceToNat]))

def cntB (B n : Nat) : Nat := ((List.range n).filter B.testBit).length
theorem cntB_succ {B n : Nat} : cntB B (n + 1) = cntB B n + if B.testBit n then 1 else 0 := by
  unfold cntB
  rw [List.range_succ, List.filter_append, List.length_append]
  cases h : B.testBit n <;> simp [h]
theorem cntB_le {B : Nat} : ∀ {n : Nat}, cntB B n ≤ n
  | 0 => by simp [cntB]
  | n + 1 => by
    rw [cntB_succ]
    have := cntB_le (B := B) (n := n)
    split <;> omega
theorem c_impl_Bits_count (ws : Option (List Int)) (B m n : Nat) (cs : List AV) (off : Nat) (h1 : cs[off + 1]? = some (eI ws)) (hw : lI ws = wordsN B m) (hn : n ≤ 16 * m) (hm : m ≤ 100000) : Fn Tryz.prog 65 [.rad cs off, .int .i64 0, .int .i64 n] (· = .int .i64 (cntB B n)) := by
  refine Fn.of free_int fun h => ?_
  refine enter (by kernel_rfl) e65 (by kernel_rfl) rfl fun hok => ?_
  simp only [r65, initEnv_3]
  have hle := @cntB_le B
  (try (simp (disch := first | omega | (simp <;> omega) | fail) only [push_cast, ↓reduceIte, Nat.reduceEqDiff, Nat.reduceAdd, Nat.reduceMul, Nat.reduceSub, Nat.reduceLT, Int.reduceToNat]))
  refine T_for n (fun i e h' => Pins e [(0, .rad cs off), (2, .int .i64 n), (7, .int .i64 (cntB B i)), (8, .int .i64 i)] ∧ h' = h) ?_ ?_
  · (try (simp (disch := first | omega | (simp <;> omega) | fail) only [push_cast, ↓reduceIte, Nat.reduceEqDiff, Nat.reduceAdd, Nat.reduceMul, Nat.reduceSub, Nat.reduceLT, Int.reduceToNat]))
    all_goals (try simp [cntB])
  rintro i e h' hi ⟨hp, rfl⟩
  refine T_pins hp fun e => ?_
  have hli := @hle i
  have hsu := @cntB_succ B i
  (try (simp (disch := first | omega | (simp <;> omega) | fail) only [push_cast, ↓reduceIte, Nat.reduceEqDiff, Nat.reduceAdd, Nat.reduceMul, Nat.reduceSub, Nat.reduceLT, Int.reduceToNat]))
  first | refine goC_split (fun hc => ?_) (fun hc => ?_) | refine cnd_split (fun hc => ?_) (fun hc => ?_)
  · (try (simp only [decide_eq_true_eq, decide_eq_false_iff_not, Bool.not_eq_true', Bool.not_eq_false', Bool.and_eq_true, Bool.or_eq_true, Int.not_lt, Int.not_le] at hc)); (try (simp (disch := first | omega | (simp <;> omega) | fail) only [push_cast, ↓reduceIte, Nat.reduceEqDiff, Nat.reduceAdd, Nat.reduceMul, Nat.reduceSub, Nat.reduceLT, Int.reduceToNat]))
    have hi2 : i < n := by omega
    (try (simp (disch := first | omega | (simp <;> omega) | fail) only [push_cast, ↓reduceIte, Nat.reduceEqDiff, Nat.reduceAdd, Nat.reduceMul, Nat.reduceSub, Nat.reduceLT, Int.reduceToNat]))
    refine (c_impl_Bits_at ws B m i cs off h1 hw (by omega) (by omega)).call ?_
    cases hb : B.testBit i
    · rw [hb, if_neg (by simp)] at hsu
      (try (simp (disch := first | omega | (simp <;> omega) | fail) only [push_cast, ↓reduceIte, Nat.reduceEqDiff, Nat.reduceAdd, Nat.reduceMul, Nat.reduceSub, Nat.reduceLT, Int.reduceToNat, hsu]))
      all_goals (try rfl)
    · rw [hb, if_pos rfl] at hsu
      (try (simp (disch := first | omega | (simp <;> omega) | fail) only [push_cast, ↓reduceIte, Nat.reduceEqDiff, Nat.reduceAdd, Nat.reduceMul, Nat.reduceSub, Nat.reduceLT, Int.reduceToNat, hsu]))
      all_goals (try rfl)
      all_goals (try omega)
  · (try (simp only [decide_eq_true_eq, decide_eq_false_iff_not, Bool.not_eq_true', Bool.not_eq_false', Bool.and_eq_true, Bool.or_eq_true, Int.not_lt, Int.not_le] at hc)); (try (simp (disch := first | omega | (simp <;> omega) | fail) only [push_cast, ↓reduceIte, Nat.reduceEqDiff, Nat.reduceAdd, Nat.reduceMul, Nat.reduceSub, Nat.reduceLT, Int.reduceToNat]))
    have hie : i = n := by omega
    subst hie
    (try (simp (disch := first | omega | (simp <;> omega) | fail) only [push_cast, ↓reduceIte, Nat.reduceEqDiff, Nat.reduceAdd, Nat.reduceMul, Nat.reduceSub, Nat.reduceLT, Int.reduceToNat]))

theorem cnt_ends {t : Tr} {K : List Str} (h : TrI t K) {i : Nat} (hi : i ≤ (nodesK K).length) : ((List.range i).filter (numW (lI t.en.words)).testBit).length = (((nodesK K).take i).filter fun x => decide (x ∈ K)).length := by
  have h1 := endsTo_filter (P := nodesK K) (g := atB t.en) (p := fun x => decide (x ∈ K)) i hi fun j hj => h.at_ (by omega)
  rw [← h1]
  unfold endsTo
  rw [List.length_map]
  rfl
theorem tx_at {t : Tr} {K : List Str} (h : TrI t K) {s : Str} {i : Nat} (hf : fndI (nodesK K) s = i) : i < (nodesK K).length ∧ atB t.en i = decide (s ∈ K) := by
  have hi := fnd_hi (l := nodesK K) (s := s)
  have hl : i < (nodesK K).length := by omega
  have hm : s ∈ nodesK K := by
    apply Classical.byContradiction
    intro h5
    rw [fnd_no h5] at hf
    omega
  obtain ⟨j, h1, _, h3, _⟩ := fnd_in hm
  have : j = i := by omega
  subst this
  exact ⟨hl, by rw [h.at_ hl, h3]⟩
theorem TrI.words {t : Tr} {K : List Str} (h : TrI t K) : okBt t.en = true := (okT0_in h.ok0).2.1

theorem c_impl_TrieIndex (t : Tr) (s : Str) : Fn Tryz.prog 20 [eTr t, .str s] (· = txV t s) := by
  refine Fn.of (by unfold txV; split <;> (try split) <;> first | exact free_zF | exact free_tup (free_cons_ free_int (free_cons_ free_bool free_nil_))) fun h => ?_
  refine enter (by kernel_rfl) e20 (by kernel_rfl) rfl fun hok => ?_
  simp only [r20, initEnv_2]
  have hf := c_impl_FindNode t s
  have hkk := fun K => @trV_ok t K
  have hI := fun K => @trV_some t K
  have hfv : fnV t s = match trV t with | some K => chR (nodesK K) s | none => zF := rfl
  have hpv : txV t s = match trV t with | some K => if s ∈ K then .tup [.int .i64 (fndI ((nodesK K).filter fun x => decide (x ∈ K)) s), .bool true] else zF | none => zF := rfl
  have hfc := @free_cTr t
  rw [hfv] at hf
  clear hfv
  generalize txV t s = R at hpv
  have hcb0 : H.cells (h ++ [some (.cells (cTr t))]) h.length = some (cTr t) := by rw [cells_h0]; rfl
  cases hv : trV t with
  | none =>
    obtain ⟨⟨ss, sw⟩, ⟨es, ew⟩, lab⟩ := t
    rw [hv] at hf hpv
    simp only at hf hpv
    subst hpv
    (try (simp (disch := first | omega | (simp <;> omega) | fail) only [push_cast, ↓reduceIte, Nat.reduceEqDiff, Nat.reduceAdd, Nat.reduceMul, Nat.reduceSub, Nat.reduceLT, Int.reduceToNat]))
    refine hf.call ?_
    (try (simp (disch := first | omega | (simp <;> omega) | fail) only [push_cast, ↓reduceIte, Nat.reduceEqDiff, Nat.reduceAdd, Nat.reduceMul, Nat.reduceSub, Nat.reduceLT, Int.reduceToNat, zF]))
    done
  | some K =>
    rw [hv] at hf hpv
    simp only at hf hpv
    have hIK := hI K hv
    have hwk := okBt_num hIK.words
    have hsz := hIK.size
    by_cases hsN : s ∈ nodesK K
    · obtain ⟨i, f1, f2, f3, f4⟩ := fnd_in hsN
      have f5 := (tx_at hIK f1).2
      have f6 := cnt_ends hIK (Nat.le_of_lt f2)
      have f7 := fnd_filter (p := fun x => decide (x ∈ K)) f1
      have hN1 := nodesK_cap (hkk K hv).2
      rw [chR_in hsN, f1] at hf
      have hat : atB t.en i = (numW (lI t.en.words)).testBit i := rfl
      obtain ⟨⟨ss, sw⟩, ⟨es, ew⟩, lab⟩ := t
      obtain ⟨e1, e2, e3, e4⟩ := hwk
      simp only at hsz e1 e2 e3 e4 f5 f6 hat
      (try (simp (disch := first | omega | (simp <;> omega) | fail) only [push_cast, ↓reduceIte, Nat.reduceEqDiff, Nat.reduceAdd, Nat.reduceMul, Nat.reduceSub, Nat.reduceLT, Int.reduceToNat]))
      refine hf.call ?_
      (try (simp (disch := first | omega | (simp <;> omega) | fail) only [push_cast, ↓reduceIte, Nat.reduceEqDiff, Nat.reduceAdd, Nat.reduceMul, Nat.reduceSub, Nat.reduceLT, Int.reduceToNat]))
      refine (c_impl_Bits_at ew (numW (lI ew)) (lI ew).length i [.int .i64 ss, eI sw, .int .i64 es, eI ew, .str lab] 2 rfl e1 (by omega) (by omega)).lendL (.adr hcb0 hfc (.free free_int .nil)) own_bool ?_
      rw [← hat, f5]
      by_cases hsK : s ∈ K
      · rw [decide_eq_true hsK]
        rw [if_pos hsK] at hpv
        have f8 := f7 (by simp [hsK])
        have hcnt := c_impl_Bits_count ew (numW (lI ew)) (lI ew).length i [.int .i64 ss, eI sw, .int .i64 es, eI ew, .str lab] 2 rfl e1 (by omega) (by omega)
        have hcb : cntB (numW (lI ew)) i = (((nodesK K).take i).filter fun x => decide (x ∈ K)).length := f6
        rw [hcb] at hcnt
        rw [f8] at hpv
        subst hpv
        (try (simp (disch := first | omega | (simp <;> omega) | fail) only [push_cast, ↓reduceIte, Nat.reduceEqDiff, Nat.reduceAdd, Nat.reduceMul, Nat.reduceSub, Nat.reduceLT, Int.reduceToNat]))
        refine hcnt.lendL (.adr hcb0 hfc (.free free_int (.free free_int .nil))) own_int ?_
        (try (simp (disch := first | omega | (simp <;> omega) | fail) only [push_cast, ↓reduceIte, Nat.reduceEqDiff, Nat.reduceAdd, Nat.reduceMul, Nat.reduceSub, Nat.reduceLT, Int.reduceToNat]))
      · rw [decide_eq_false hsK]
        rw [if_neg hsK] at hpv
        subst hpv
        (try (simp (disch := first | omega | (simp <;> omega) | fail) only [push_cast, ↓reduceIte, Nat.reduceEqDiff, Nat.reduceAdd, Nat.reduceMul, Nat.reduceSub, Nat.reduceLT, Int.reduceToNat, zF]))
    · have hsK : s ∉ K := fun h5 => hsN (key_node hIK.keys h5)
      rw [if_neg hsK] at hpv
      subst hpv
      have hz : chR (nodesK K) s = zF := by
        unfold chR
        rw [if_pos (fnd_neg.2 hsN)]
      rw [hz] at hf
      obtain ⟨⟨ss, sw⟩, ⟨es, ew⟩, lab⟩ := t
      (try (simp (disch := first | omega | (simp <;> omega) | fail) only [push_cast, ↓reduceIte, Nat.reduceEqDiff, Nat.reduceAdd, Nat.reduceMul, Nat.reduceSub, Nat.reduceLT, Int.reduceToNat]))
      refine hf.call ?_
      (try (simp (disch := first | omega | (simp <;> omega) | fail) only [push_cast, ↓reduceIte, Nat.reduceEqDiff, Nat.reduceAdd, Nat.reduceMul, Nat.reduceSub, Nat.reduceLT, Int.reduceToNat, zF]))
      done

theorem c_laws_eqIntS (a b : Option (List Int)) : Fn Tryz.prog 91 [eI a, eI b] (· = .bool (decide (lI a = lI b))) := by
  refine Fn.of free_bool fun h => ?_
  refine enter (by kernel_rfl) e91 (by kernel_rfl) rfl fun hok => ?_
  simp only [r91, initEnv_2]
  have ha := ok_eI (okV_0 hok)
  have hb := ok_eI (okV_1 hok)
  (try (simp (disch := first | omega | (simp <;> omega) | fail) only [push_cast, ↓reduceIte, Nat.reduceEqDiff, Nat.reduceAdd, Nat.reduceMul, Nat.reduceSub, Nat.reduceLT, Int.reduceToNat]))
  first | refine goC_split (fun hc => ?_) (fun hc => ?_) | refine cnd_split (fun hc => ?_) (fun hc => ?_)
  · (try (simp only [decide_eq_true_eq, decide_eq_false_iff_not, Bool.not_eq_true', Bool.not_eq_false', Bool.and_eq_true, Bool.or_eq_true, Int.not_lt, Int.not_le] at hc)); (try (simp (disch := first | omega | (simp <;> omega) | fail) only [push_cast, ↓reduceIte, Nat.reduceEqDiff, Nat.reduceAdd, Nat.reduceMul, Nat.reduceSub, Nat.reduceLT, Int.reduceToNat]))
    congr 1
    symm
    rw [decide_eq_false_iff_not]
    intro he
    rw [he] at hc
    exact hc rfl
  have hlen : (lI a).length = (lI b).length := by (try (simp only [decide_eq_true_eq, decide_eq_false_iff_not, Bool.not_eq_true', Bool.not_eq_false', Bool.and_eq_true, Bool.or_eq_true, Int.not_lt, Int.not_le] at hc)); (try (simp (disch := first | omega | (simp <;> omega) | fail) only [push_cast, ↓reduceIte, Nat.reduceEqDiff, Nat.reduceAdd, Nat.reduceMul, Nat.reduceSub, Nat.reduceLT, Int.reduceToNat])); omega
  (try (simp (disch := first | omega | (simp <;> omega) | fail) only [push_cast, ↓reduceIte, Nat.reduceEqDiff, Nat.reduceAdd, Nat.reduceMul, Nat.reduceSub, Nat.reduceLT, Int.reduceToNat]))
  refine T_for (lI a).length (fun i e h' => Pins e [(0, eI a), (1, eI b), (5, .int .i64 i)] ∧ h' = h ∧ (lI a).take i = (lI b).take i) ?_ ?_
  · (try (simp (disch := first | omega | (simp <;> omega) | fail) only [push_cast, ↓reduceIte, Nat.reduceEqDiff, Nat.reduceAdd, Nat.reduceMul, Nat.reduceSub, Nat.reduceLT, Int.reduceToNat]))
    simp
  rintro i e h' hi ⟨hp, rfl, he⟩
  refine T_pins hp fun e => ?_
  (try (simp (disch := first | omega | (simp <;> omega) | fail) only [push_cast, ↓reduceIte, Nat.reduceEqDiff, Nat.reduceAdd, Nat.reduceMul, Nat.reduceSub, Nat.reduceLT, Int.reduceToNat]))
  first | refine goC_split (fun hc => ?_) (fun hc => ?_) | refine cnd_split (fun hc => ?_) (fun hc => ?_)
  · (try (simp only [decide_eq_true_eq, decide_eq_false_iff_not, Bool.not_eq_true', Bool.not_eq_false', Bool.and_eq_true, Bool.or_eq_true, Int.not_lt, Int.not_le] at hc)); (try (simp (disch := first | omega | (simp <;> omega) | fail) only [push_cast, ↓reduceIte, Nat.reduceEqDiff, Nat.reduceAdd, Nat.reduceMul, Nat.reduceSub, Nat.reduceLT, Int.reduceToNat]))
    have hi : i < (lI a).length := by omega
    (try (simp (disch := first | omega | (simp <;> omega) | fail) only [push_cast, ↓reduceIte, Nat.reduceEqDiff, Nat.reduceAdd, Nat.reduceMul, Nat.reduceSub, Nat.reduceLT, Int.reduceToNat]))
    first | refine goC_split (fun hc => ?_) (fun hc => ?_) | refine cnd_split (fun hc => ?_) (fun hc => ?_)
    · (try (simp only [decide_eq_true_eq, decide_eq_false_iff_not, Bool.not_eq_true', Bool.not_eq_false', Bool.and_eq_true, Bool.or_eq_true, Int.not_lt, Int.not_le] at hc)); (try (simp (disch := first | omega | (simp <;> omega) | fail) only [push_cast, ↓reduceIte, Nat.reduceEqDiff, Nat.reduceAdd, Nat.reduceMul, Nat.reduceSub, Nat.reduceLT, Int.reduceToNat]))
      congr 1
      symm
      rw [decide_eq_false_iff_not]
      intro he
      rw [he] at hc
      exact hc rfl
    · (try (simp only [decide_eq_true_eq, decide_eq_false_iff_not, Bool.not_eq_true', Bool.not_eq_false', Bool.and_eq_true, Bool.or_eq_true, Int.not_lt, Int.not_le] at hc)); (try (simp (disch := first | omega | (simp <;> omega) | fail) only [push_cast, ↓reduceIte, Nat.reduceEqDiff, Nat.reduceAdd, Nat.reduceMul, Nat.reduceSub, Nat.reduceLT, Int.reduceToNat]))
      have h1 : i < (lI b).length := by omega
      simp [hi, h1] at hc
      rw [List.take_add_one, List.take_add_one, he]
      simp [hi, h1, hc]
  · (try (simp only [decide_eq_true_eq, decide_eq_false_iff_not, Bool.not_eq_true', Bool.not_eq_false', Bool.and_eq_true, Bool.or_eq_true, Int.not_lt, Int.not_le] at hc)); (try (simp (disch := first | omega | (simp <;> omega) | fail) only [push_cast, ↓reduceIte, Nat.reduceEqDiff, Nat.reduceAdd, Nat.reduceMul, Nat.reduceSub, Nat.reduceLT, Int.reduceToNat]))
    have hi2 : i = (lI a).length := by omega
    congr 1
    symm
    rw [decide_eq_true_iff]
    rw [hi2, List.take_length] at he
    rw [he, hlen, List.take_length]

theorem c_laws_eqBits (b c : Bt) : Fn Tryz.prog 59 [eB b, eB c] (· = .bool (decide (b.size = c.size) && decide (lI b.words = lI c.words))) := by
  refine Fn.of free_bool fun h => ?_
  refine enter (by kernel_rfl) e59 (by kernel_rfl) rfl fun hok => ?_
  simp only [r59, initEnv_2]
  (try (simp (disch := first | omega | (simp <;> omega) | fail) only [push_cast, ↓reduceIte, Nat.reduceEqDiff, Nat.reduceAdd, Nat.reduceMul, Nat.reduceSub, Nat.reduceLT, Int.reduceToNat]))
  first | refine goC_split (fun hc => ?_) (fun hc => ?_) | refine cnd_split (fun hc => ?_) (fun hc => ?_)
  · (try (simp only [decide_eq_true_eq, decide_eq_false_iff_not, Bool.not_eq_true', Bool.not_eq_false', Bool.and_eq_true, Bool.or_eq_true, Int.not_lt, Int.not_le] at hc)); (try (simp (disch := first | omega | (simp <;> omega) | fail) only [push_cast, ↓reduceIte, Nat.reduceEqDiff, Nat.reduceAdd, Nat.reduceMul, Nat.reduceSub, Nat.reduceLT, Int.reduceToNat]))
  (try (simp only [decide_eq_true_eq, decide_eq_false_iff_not, Bool.not_eq_true', Bool.not_eq_false', Bool.and_eq_true, Bool.or_eq_true, Int.not_lt, Int.not_le] at hc)); (try (simp (disch := first | omega | (simp <;> omega) | fail) only [push_cast, ↓reduceIte, Nat.reduceEqDiff, Nat.reduceAdd, Nat.reduceMul, Nat.reduceSub, Nat.reduceLT, Int.reduceToNat]))
  refine (c_laws_eqIntS _ _).call ?_
  cases he : decide (lI b.words = lI c.words)
  · (try (simp (disch := first | omega | (simp <;> omega) | fail) only [push_cast, ↓reduceIte, Nat.reduceEqDiff, Nat.reduceAdd, Nat.reduceMul, Nat.reduceSub, Nat.reduceLT, Int.reduceToNat]))
    all_goals (try simp [hc])
  · (try (simp (disch := first | omega | (simp <;> omega) | fail) only [push_cast, ↓reduceIte, Nat.reduceEqDiff, Nat.reduceAdd, Nat.reduceMul, Nat.reduceSub, Nat.reduceLT, Int.reduceToNat]))
    all_goals (try simp [hc])

theorem c_laws_eqTrie (t : Tr) : Fn Tryz.prog 16 [eTr t, eTr t] (· = .bool true) := by
  refine Fn.of free_bool fun h => ?_
  refine enter (by kernel_rfl) e16 (by kernel_rfl) rfl fun hok => ?_
  simp only [r16, initEnv_2]
  have hb : ∀ b : Bt, Fn Tryz.prog 59 [eB b, eB b] (· = .bool true) := fun b => by
    have := c_laws_eqBits b b
    simpa using this
  (try (simp (disch := first | omega | (simp <;> omega) | fail) only [push_cast, ↓reduceIte, Nat.reduceEqDiff, Nat.reduceAdd, Nat.reduceMul, Nat.reduceSub, Nat.reduceLT, Int.reduceToNat]))
  refine (hb t.sh).call ?_
  (try (simp (disch := first | omega | (simp <;> omega) | fail) only [push_cast, ↓reduceIte, Nat.reduceEqDiff, Nat.reduceAdd, Nat.reduceMul, Nat.reduceSub, Nat.reduceLT, Int.reduceToNat]))
  refine (hb t.en).call ?_
  (try (simp (disch := first | omega | (simp <;> omega) | fail) only [push_cast, ↓reduceIte, Nat.reduceEqDiff, Nat.reduceAdd, Nat.reduceMul, Nat.reduceSub, Nat.reduceLT, Int.reduceToNat]))

def shTrie : Sh := .st [.st [.int .i64, .sl (.int .i64) 1], .st [.int .i64, .sl (.int .i64) 1], .str]
theorem fit_trie {zs : List AV} (h : Fit shTrie zs) : ∃ t, argOf shTrie zs = eTr t ∧ t.lab.length ≤ 9223372036854775807 := by
  obtain ⟨x1, y1, rfl, h1, h⟩ := fits_cons (fit_st h)
  obtain ⟨x2, y2, rfl, h2, h⟩ := fits_cons h
  obtain ⟨x3, y3, rfl, h3, h⟩ := fits_cons h
  obtain rfl := fits_nil h
  obtain ⟨a1, b1, rfl, g1, g⟩ := fits_cons (fit_st h1)
  obtain ⟨a2, b2, rfl, g2, g⟩ := fits_cons g
  obtain rfl := fits_nil g
  obtain ⟨a, rfl, _⟩ := fit_int g1
  obtain ⟨ws, rfl⟩ := fit_ints g2
  obtain ⟨c1, d1, rfl, k1, k⟩ := fits_cons (fit_st h2)
  obtain ⟨c2, d2, rfl, k2, k⟩ := fits_cons k
  obtain rfl := fits_nil k
  obtain ⟨c, rfl, _⟩ := fit_int k1
  obtain ⟨vs, rfl⟩ := fit_ints k2
  obtain ⟨lab, rfl, hl⟩ := fit_str h3
  exact ⟨⟨⟨a, ws⟩, ⟨c, vs⟩, lab⟩, rfl, hl⟩
def isZT (v : AV) : Prop := ∃ n b, v = .tup [.int .i64 n, .bool b]
theorem isZT_zF : isZT zF := ⟨_, _, rfl⟩
theorem isZT_ch {N : List Str} {s : Str} : isZT (chR N s) := by
  unfold chR
  split
  · exact isZT_zF
  · exact ⟨_, _, rfl⟩
theorem isZT_pa {t : Tr} {i : Int} : isZT (paV t i) := by
  unfold paV
  split
  · split
    · exact ⟨_, _, rfl⟩
    · exact isZT_zF
  · exact isZT_zF
theorem isZT_chV {t : Tr} {i c : Int} : isZT (chV t i c) := by
  unfold chV
  split
  · split
    · exact isZT_ch
    · exact isZT_zF
  · exact isZT_zF
theorem isZT_tx {t : Tr} {s : Str} : isZT (txV t s) := by
  unfold txV
  split
  · split
    · exact ⟨_, _, rfl⟩
    · exact isZT_zF
  · exact isZT_zF
theorem isZT_rk {t : Tr} {s : Str} : isZT (rkV t s) := by
  unfold rkV
  split
  · exact ⟨_, _, rfl⟩
  · exact isZT_zF

def sh_FnExactTrieIndex : List Sh := [shTrie, .str]
theorem law_FnExactTrieIndex (ys : List AV) (hy : ArgsFit sh_FnExactTrieIndex ys) : Call Tryz.prog 5 ys [] Nowhere (fun x _ => x = .bool true) := by
  obtain ⟨x1, y1, rfl, h1, hy⟩ := argsFit_cons hy
  obtain ⟨x2, y2, rfl, h2, hy⟩ := argsFit_cons hy
  obtain rfl := argsFit_nil hy
  obtain ⟨t, he, hlr⟩ := fit_trie h1
  obtain ⟨s, rfl, hrs⟩ := fit_str h2
  rw [he]
  refine (?_ : ∀ h, Call Tryz.prog 5 [eTr t, .str s] h Nowhere (fun x _ => x = .bool true)) []
  intro h
  refine enter (by kernel_rfl) e5 (by kernel_rfl) rfl fun hok => ?_
  simp only [r5, initEnv_2]
  (try (simp (disch := first | omega | (simp <;> omega) | fail) only [push_cast, ↓reduceIte, Nat.reduceEqDiff, Nat.reduceAdd, Nat.reduceMul, Nat.reduceSub, Nat.reduceLT, Int.reduceToNat]))
  first | refine goC_split (fun hc => ?_) (fun hc => ?_) | refine cnd_split (fun hc => ?_) (fun hc => ?_)
  · (try (simp only [decide_eq_true_eq, decide_eq_false_iff_not, Bool.not_eq_true', Bool.not_eq_false', Bool.and_eq_true, Bool.or_eq_true, Int.not_lt, Int.not_le] at hc)); (try (simp (disch := first | omega | (simp <;> omega) | fail) only [push_cast, ↓reduceIte, Nat.reduceEqDiff, Nat.reduceAdd, Nat.reduceMul, Nat.reduceSub, Nat.reduceLT, Int.reduceToNat]))
  (try (simp only [decide_eq_true_eq, decide_eq_false_iff_not, Bool.not_eq_true', Bool.not_eq_false', Bool.and_eq_true, Bool.or_eq_true, Int.not_lt, Int.not_le] at hc)); (try (simp (disch := first | omega | (simp <;> omega) | fail) only [push_cast, ↓reduceIte, Nat.reduceEqDiff, Nat.reduceAdd, Nat.reduceMul, Nat.reduceSub, Nat.reduceLT, Int.reduceToNat]))
  have hsl : s.length ≤ 1048576 := by omega
  clear hc
  refine (c_laws_szTrie t 1048576 (by omega) (by omega) hlr).call ?_
  (try (simp (disch := first | omega | (simp <;> omega) | fail) only [push_cast, ↓reduceIte, Nat.reduceEqDiff, Nat.reduceAdd, Nat.reduceMul, Nat.reduceSub, Nat.reduceLT, Int.reduceToNat]))
  first | refine goC_split (fun hd => ?_) (fun hd => ?_) | refine cnd_split (fun hd => ?_) (fun hd => ?_)
  · (try (simp only [decide_eq_true_eq, decide_eq_false_iff_not, Bool.not_eq_true', Bool.not_eq_false', Bool.and_eq_true, Bool.or_eq_true, Int.not_lt, Int.not_le] at hd)); (try (simp (disch := first | omega | (simp <;> omega) | fail) only [push_cast, ↓reduceIte, Nat.reduceEqDiff, Nat.reduceAdd, Nat.reduceMul, Nat.reduceSub, Nat.reduceLT, Int.reduceToNat]))
  (try (simp only [decide_eq_true_eq, decide_eq_false_iff_not, Bool.not_eq_true', Bool.not_eq_false', Bool.and_eq_true, Bool.or_eq_true, Int.not_lt, Int.not_le] at hd)); (try (simp (disch := first | omega | (simp <;> omega) | fail) only [push_cast, ↓reduceIte, Nat.reduceEqDiff, Nat.reduceAdd, Nat.reduceMul, Nat.reduceSub, Nat.reduceLT, Int.reduceToNat]))
  have hw := szv_ok hd
  have hw1 : (lI t.sh.words).length ≤ 1048576 := by omega
  have hw2 : (lI t.en.words).length ≤ 1048576 := by omega
  refine (c_laws_toTrie t hw1 hw2).call ?_
  (try (simp (disch := first | omega | (simp <;> omega) | fail) only [push_cast, ↓reduceIte, Nat.reduceEqDiff, Nat.reduceAdd, Nat.reduceMul, Nat.reduceSub, Nat.reduceLT, Int.reduceToNat]))
  refine (c_spec_TrieIndex (cpTr t) s).call ?_
  obtain ⟨n, cc, hv⟩ := isZT_tx (t := cpTr t) (s := s)
  have himp := c_impl_TrieIndex (cpTr t) s
  rw [hv] at himp ⊢
  (try (simp (disch := first | omega | (simp <;> omega) | fail) only [push_cast, ↓reduceIte, Nat.reduceEqDiff, Nat.reduceAdd, Nat.reduceMul, Nat.reduceSub, Nat.reduceLT, Int.reduceToNat]))
  refine (c_laws_toTrie t hw1 hw2).call ?_
  (try (simp (disch := first | omega | (simp <;> omega) | fail) only [push_cast, ↓reduceIte, Nat.reduceEqDiff, Nat.reduceAdd, Nat.reduceMul, Nat.reduceSub, Nat.reduceLT, Int.reduceToNat]))
  refine himp.call ?_
  cases cc
  all_goals
    (try (simp (disch := first | omega | (simp <;> omega) | fail) only [push_cast, ↓reduceIte, Nat.reduceEqDiff, Nat.reduceAdd, Nat.reduceMul, Nat.reduceSub, Nat.reduceLT, Int.reduceToNat]))
    refine (c_laws_toTrie t hw1 hw2).call ?_
    (try (simp (disch := first | omega | (simp <;> omega) | fail) only [push_cast, ↓reduceIte, Nat.reduceEqDiff, Nat.reduceAdd, Nat.reduceMul, Nat.reduceSub, Nat.reduceLT, Int.reduceToNat]))
    refine (c_laws_eqTrie (cpTr t)).call ?_
    (try (simp (disch := first | omega | (simp <;> omega) | fail) only [push_cast, ↓reduceIte, Nat.reduceEqDiff, Nat.reduceAdd, Nat.reduceMul, Nat.reduceSub, Nat.reduceLT, Int.reduceToNat]))

end Go.Proofs.YtidhhiecgehgfaaGreat.M
