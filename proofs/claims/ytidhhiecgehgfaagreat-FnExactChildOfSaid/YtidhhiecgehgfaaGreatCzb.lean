/-
  What the functions return.
-/
import Derived.Test.YtidhhiecgehgfaaGreatFzb
import Derived.Test.YtidhhiecgehgfaaGreatCy
namespace Go.Proofs.YtidhhiecgehgfaaGreat.M
open Go Go.RowKit
set_option linter.unusedVariables false
set_option linter.unusedSimpArgs false
set_option maxRecDepth 4000

theorem c_laws_szIntS (a : Option (List Int)) (left : Int) (hl0 : 0 ≤ left) (hleft : left ≤ 1048576) : Fn Tryz.prog 87 [eI a, .int .i64 left] (· = .int .i64 (szv left (lI a).length)) := by
  refine Fn.of free_int fun h => ?_
  refine enter (by kernel_rfl) e87 (by kernel_rfl) rfl fun hok => ?_
  simp only [r87, initEnv_2]
  have hlen := ok_eI (okV_0 hok)
  (try (simp (disch := first | omega | (simp <;> omega) | fail) only [push_cast, ↓reduceIte, Nat.reduceEqDiff, Nat.reduceAdd, Nat.reduceMul, Nat.reduceSub, Nat.reduceLT, Int.reduceToNat]))
  first | refine goC_split (fun hc => ?_) (fun hc => ?_) | refine cnd_split (fun hc => ?_) (fun hc => ?_)
  · (try (simp only [decide_eq_true_eq, decide_eq_false_iff_not, Bool.not_eq_true', Bool.not_eq_false', Bool.and_eq_true, Bool.or_eq_true, Int.not_lt, Int.not_le] at hc)); (try (simp (disch := first | omega | (simp <;> omega) | fail) only [push_cast, ↓reduceIte, Nat.reduceEqDiff, Nat.reduceAdd, Nat.reduceMul, Nat.reduceSub, Nat.reduceLT, Int.reduceToNat]))
    rw [szv, if_neg (by omega)]
  · (try (simp only [decide_eq_true_eq, decide_eq_false_iff_not, Bool.not_eq_true', Bool.not_eq_false', Bool.and_eq_true, Bool.or_eq_true, Int.not_lt, Int.not_le] at hc)); (try (simp (disch := first | omega | (simp <;> omega) | fail) only [push_cast, ↓reduceIte, Nat.reduceEqDiff, Nat.reduceAdd, Nat.reduceMul, Nat.reduceSub, Nat.reduceLT, Int.reduceToNat]))
    rw [szv, if_pos (by omega)]

theorem c_laws_szBits (b : Bt) (left : Int) (hl0 : 0 ≤ left) (hleft : left ≤ 1048576) : Fn Tryz.prog 52 [eB b, .int .i64 left] (· = .int .i64 (szv left (lI b.words).length)) := by
  refine Fn.of free_int fun h => ?_
  refine enter (by kernel_rfl) e52 (by kernel_rfl) rfl fun hok => ?_
  simp only [r52, initEnv_2]
  (try (simp (disch := first | omega | (simp <;> omega) | fail) only [push_cast, ↓reduceIte, Nat.reduceEqDiff, Nat.reduceAdd, Nat.reduceMul, Nat.reduceSub, Nat.reduceLT, Int.reduceToNat]))
  refine (c_laws_szIntS _ _ hl0 hleft).call ?_
  (try (simp (disch := first | omega | (simp <;> omega) | fail) only [push_cast, ↓reduceIte, Nat.reduceEqDiff, Nat.reduceAdd, Nat.reduceMul, Nat.reduceSub, Nat.reduceLT, Int.reduceToNat]))
  first | refine goC_split (fun hc => ?_) (fun hc => ?_) | refine cnd_split (fun hc => ?_) (fun hc => ?_)
  · (try (simp only [decide_eq_true_eq, decide_eq_false_iff_not, Bool.not_eq_true', Bool.not_eq_false', Bool.and_eq_true, Bool.or_eq_true, Int.not_lt, Int.not_le] at hc)); (try (simp (disch := first | omega | (simp <;> omega) | fail) only [push_cast, ↓reduceIte, Nat.reduceEqDiff, Nat.reduceAdd, Nat.reduceMul, Nat.reduceSub, Nat.reduceLT, Int.reduceToNat]))
    unfold szv at hc ⊢
    split at hc
    · omega
    · rename_i hn
      rw [if_neg hn]
  · (try (simp only [decide_eq_true_eq, decide_eq_false_iff_not, Bool.not_eq_true', Bool.not_eq_false', Bool.and_eq_true, Bool.or_eq_true, Int.not_lt, Int.not_le] at hc)); (try (simp (disch := first | omega | (simp <;> omega) | fail) only [push_cast, ↓reduceIte, Nat.reduceEqDiff, Nat.reduceAdd, Nat.reduceMul, Nat.reduceSub, Nat.reduceLT, Int.reduceToNat]))

theorem c_laws_szTrie (t : Tr) (left : Int) (hl0 : 0 ≤ left) (hleft : left ≤ 1048576) (hlab : t.lab.length ≤ 9223372036854775807) : Fn Tryz.prog 12 [eTr t, .int .i64 left] (· = .int .i64 (szv left ((lI t.sh.words).length + (lI t.en.words).length + t.lab.length))) := by
  refine Fn.of free_int fun h => ?_
  refine enter (by kernel_rfl) e12 (by kernel_rfl) rfl fun hok => ?_
  simp only [r12, initEnv_2]
  (try (simp (disch := first | omega | (simp <;> omega) | fail) only [push_cast, ↓reduceIte, Nat.reduceEqDiff, Nat.reduceAdd, Nat.reduceMul, Nat.reduceSub, Nat.reduceLT, Int.reduceToNat]))
  refine (c_laws_szBits t.sh left hl0 hleft).call ?_
  (try (simp (disch := first | omega | (simp <;> omega) | fail) only [push_cast, ↓reduceIte, Nat.reduceEqDiff, Nat.reduceAdd, Nat.reduceMul, Nat.reduceSub, Nat.reduceLT, Int.reduceToNat]))
  first | refine goC_split (fun hc => ?_) (fun hc => ?_) | refine cnd_split (fun hc => ?_) (fun hc => ?_)
  · (try (simp only [decide_eq_true_eq, decide_eq_false_iff_not, Bool.not_eq_true', Bool.not_eq_false', Bool.and_eq_true, Bool.or_eq_true, Int.not_lt, Int.not_le] at hc)); (try (simp (disch := first | omega | (simp <;> omega) | fail) only [push_cast, ↓reduceIte, Nat.reduceEqDiff, Nat.reduceAdd, Nat.reduceMul, Nat.reduceSub, Nat.reduceLT, Int.reduceToNat]))
    unfold szv at hc ⊢
    split at hc
    · omega
    · rw [if_neg (by omega)]
  (try (simp only [decide_eq_true_eq, decide_eq_false_iff_not, Bool.not_eq_true', Bool.not_eq_false', Bool.and_eq_true, Bool.or_eq_true, Int.not_lt, Int.not_le] at hc)); (try (simp (disch := first | omega | (simp <;> omega) | fail) only [push_cast, ↓reduceIte, Nat.reduceEqDiff, Nat.reduceAdd, Nat.reduceMul, Nat.reduceSub, Nat.reduceLT, Int.reduceToNat]))
  refine (c_laws_szBits t.en _ hc (by unfold szv; split <;> omega)).call ?_
  (try (simp (disch := first | omega | (simp <;> omega) | fail) only [push_cast, ↓reduceIte, Nat.reduceEqDiff, Nat.reduceAdd, Nat.reduceMul, Nat.reduceSub, Nat.reduceLT, Int.reduceToNat]))
  first | refine goC_split (fun hd => ?_) (fun hd => ?_) | refine cnd_split (fun hd => ?_) (fun hd => ?_)
  · (try (simp only [decide_eq_true_eq, decide_eq_false_iff_not, Bool.not_eq_true', Bool.not_eq_false', Bool.and_eq_true, Bool.or_eq_true, Int.not_lt, Int.not_le] at hd)); (try (simp (disch := first | omega | (simp <;> omega) | fail) only [push_cast, ↓reduceIte, Nat.reduceEqDiff, Nat.reduceAdd, Nat.reduceMul, Nat.reduceSub, Nat.reduceLT, Int.reduceToNat]))
    unfold szv at hc hd ⊢
    split at hc
    · split at hd
      · omega
      · rw [if_neg (by omega)]
    · omega
  (try (simp only [decide_eq_true_eq, decide_eq_false_iff_not, Bool.not_eq_true', Bool.not_eq_false', Bool.and_eq_true, Bool.or_eq_true, Int.not_lt, Int.not_le] at hd)); (try (simp (disch := first | omega | (simp <;> omega) | fail) only [push_cast, ↓reduceIte, Nat.reduceEqDiff, Nat.reduceAdd, Nat.reduceMul, Nat.reduceSub, Nat.reduceLT, Int.reduceToNat]))
  have hv2 : szv (szv left (lI t.sh.words).length) (lI t.en.words).length = left - (lI t.sh.words).length - (lI t.en.words).length ∧ (lI t.sh.words).length + (lI t.en.words).length ≤ left := by
    unfold szv at hc hd ⊢
    split at hc
    · rename_i h1
      rw [if_pos h1] at hd ⊢
      split at hd
      · rename_i h2
        rw [if_pos h2]
        omega
      · omega
    · omega
  rw [hv2.1]
  clear hd hc
  (try (simp (disch := first | omega | (simp <;> omega) | fail) only [push_cast, ↓reduceIte, Nat.reduceEqDiff, Nat.reduceAdd, Nat.reduceMul, Nat.reduceSub, Nat.reduceLT, Int.reduceToNat]))
  first | refine goC_split (fun hd => ?_) (fun hd => ?_) | refine cnd_split (fun hd => ?_) (fun hd => ?_)
  · (try (simp only [decide_eq_true_eq, decide_eq_false_iff_not, Bool.not_eq_true', Bool.not_eq_false', Bool.and_eq_true, Bool.or_eq_true, Int.not_lt, Int.not_le] at hd)); (try (simp (disch := first | omega | (simp <;> omega) | fail) only [push_cast, ↓reduceIte, Nat.reduceEqDiff, Nat.reduceAdd, Nat.reduceMul, Nat.reduceSub, Nat.reduceLT, Int.reduceToNat]))
    unfold szv
    rw [if_neg (by omega)]
  · (try (simp only [decide_eq_true_eq, decide_eq_false_iff_not, Bool.not_eq_true', Bool.not_eq_false', Bool.and_eq_true, Bool.or_eq_true, Int.not_lt, Int.not_le] at hd)); (try (simp (disch := first | omega | (simp <;> omega) | fail) only [push_cast, ↓reduceIte, Nat.reduceEqDiff, Nat.reduceAdd, Nat.reduceMul, Nat.reduceSub, Nat.reduceLT, Int.reduceToNat]))
    unfold szv
    rw [if_pos (by omega)]
    have : left - (lI t.sh.words).length - (lI t.en.words).length - (t.lab.length : Int) = left - (((lI t.sh.words).length + (lI t.en.words).length + t.lab.length : Nat) : Int) := by omega
    rw [this]

theorem c_laws_toIntS_o (a : Option (List Int)) (ha : (lI a).length ≤ 1048576) : FnO Tryz.prog 89 [eI a] (· = eI (some (lI a))) := by
  intro h
  refine enter (by kernel_rfl) e89 (by kernel_rfl) rfl fun hok => ?_
  simp only [r89, initEnv_1]
  (try (simp (disch := first | omega | (simp <;> omega) | fail) only [push_cast, ↓reduceIte, Nat.reduceEqDiff, Nat.reduceAdd, Nat.reduceMul, Nat.reduceSub, Nat.reduceLT, Int.reduceToNat]))
  refine T_for (lI a).length (fun i e h' => Pins e [(0, eI a), (3, .sl h.length 0 1 (lI a).length (lI a).length), (4, .int .i64 i)] ∧ h' = h ++ [some (.cells (fill (.int .i64) (lI a) (.int .i64 0) i))]) ?_ ?_
  · (try (simp (disch := first | omega | (simp <;> omega) | fail) only [push_cast, ↓reduceIte, Nat.reduceEqDiff, Nat.reduceAdd, Nat.reduceMul, Nat.reduceSub, Nat.reduceLT, Int.reduceToNat, fill_0]))
  rintro i e h' hi ⟨hp, rfl⟩
  refine T_pins hp fun e => ?_
  (try (simp (disch := first | omega | (simp <;> omega) | fail) only [push_cast, ↓reduceIte, Nat.reduceEqDiff, Nat.reduceAdd, Nat.reduceMul, Nat.reduceSub, Nat.reduceLT, Int.reduceToNat]))
  first | refine goC_split (fun hc => ?_) (fun hc => ?_) | refine cnd_split (fun hc => ?_) (fun hc => ?_)
  · (try (simp only [decide_eq_true_eq, decide_eq_false_iff_not, Bool.not_eq_true', Bool.not_eq_false', Bool.and_eq_true, Bool.or_eq_true, Int.not_lt, Int.not_le] at hc)); (try (simp (disch := first | omega | (simp <;> omega) | fail) only [push_cast, ↓reduceIte, Nat.reduceEqDiff, Nat.reduceAdd, Nat.reduceMul, Nat.reduceSub, Nat.reduceLT, Int.reduceToNat]))
    (try (simp (disch := first | omega | (simp <;> omega) | fail) only [push_cast, ↓reduceIte, Nat.reduceEqDiff, Nat.reduceAdd, Nat.reduceMul, Nat.reduceSub, Nat.reduceLT, Int.reduceToNat, fill_len hi]))
    rw [fill_next (d := 0) (by omega) rfl]
  · (try (simp only [decide_eq_true_eq, decide_eq_false_iff_not, Bool.not_eq_true', Bool.not_eq_false', Bool.and_eq_true, Bool.or_eq_true, Int.not_lt, Int.not_le] at hc)); (try (simp (disch := first | omega | (simp <;> omega) | fail) only [push_cast, ↓reduceIte, Nat.reduceEqDiff, Nat.reduceAdd, Nat.reduceMul, Nat.reduceSub, Nat.reduceLT, Int.reduceToNat]))
    rw [fill_all (by omega)]
    exact ⟨_, ow_map (fun _ => rfl) (by rw [cells_h0]; rfl) rfl (Nat.le_refl _), rfl⟩
theorem c_laws_toIntS (a : Option (List Int)) (ha : (lI a).length ≤ 1048576) : Fn Tryz.prog 89 [eI a] (· = eI (some (lI a))) := (c_laws_toIntS_o a ha).fn

theorem c_laws_toBits_o (b : Bt) (ha : (lI b.words).length ≤ 1048576) : FnO Tryz.prog 56 [eB b] (· = eB (cpB b)) := by
  intro h
  refine enter (by kernel_rfl) e56 (by kernel_rfl) rfl fun hok => ?_
  simp only [r56, initEnv_1]
  (try (simp (disch := first | omega | (simp <;> omega) | fail) only [push_cast, ↓reduceIte, Nat.reduceEqDiff, Nat.reduceAdd, Nat.reduceMul, Nat.reduceSub, Nat.reduceLT, Int.reduceToNat]))
  refine (c_laws_toIntS_o _ ha).use fun x t l hR how => ?_
  subst hR
  obtain ⟨bb, rfl⟩ := Ow.sl1 (show Ow _ [x] [.ro 1 _ _] _ from how)
  (try (simp (disch := first | omega | (simp <;> omega) | fail) only [push_cast, ↓reduceIte, Nat.reduceEqDiff, Nat.reduceAdd, Nat.reduceMul, Nat.reduceSub, Nat.reduceLT, Int.reduceToNat]))
  refine ⟨_, (Ow.atom rfl (how.shift (fun c hc => ?_) (by simp))).aggOf, rfl⟩
  rw [List.append_assoc]
  exact tl_k (p := [_, _, _]) (q := [_, _, _]) rfl (by simpa using hc)
theorem c_laws_toBits (b : Bt) (ha : (lI b.words).length ≤ 1048576) : Fn Tryz.prog 56 [eB b] (· = eB (cpB b)) := (c_laws_toBits_o b ha).fn

def cpTr (t : Tr) : Tr := ⟨cpB t.sh, cpB t.en, t.lab⟩

theorem c_laws_toTrie (t : Tr) (h1 : (lI t.sh.words).length ≤ 1048576) (h2 : (lI t.en.words).length ≤ 1048576) : Fn Tryz.prog 14 [eTr t] (· = eTr (cpTr t)) := by
  refine Fn.of free_eTr fun h => ?_
  refine enter (by kernel_rfl) e14 (by kernel_rfl) rfl fun hok => ?_
  simp only [r14, initEnv_1]
  (try (simp (disch := first | omega | (simp <;> omega) | fail) only [push_cast, ↓reduceIte, Nat.reduceEqDiff, Nat.reduceAdd, Nat.reduceMul, Nat.reduceSub, Nat.reduceLT, Int.reduceToNat]))
  refine (c_laws_toBits t.sh h1).call ?_
  (try (simp (disch := first | omega | (simp <;> omega) | fail) only [push_cast, ↓reduceIte, Nat.reduceEqDiff, Nat.reduceAdd, Nat.reduceMul, Nat.reduceSub, Nat.reduceLT, Int.reduceToNat]))
  refine (c_laws_toBits t.en h2).call ?_
  (try (simp (disch := first | omega | (simp <;> omega) | fail) only [push_cast, ↓reduceIte, Nat.reduceEqDiff, Nat.reduceAdd, Nat.reduceMul, Nat.reduceSub, Nat.reduceLT, Int.reduceToNat]))
  all_goals (try rfl)
theorem c_laws_toTrie_o (t : Tr) (h1 : (lI t.sh.words).length ≤ 1048576) (h2 : (lI t.en.words).length ≤ 1048576) : FnO Tryz.prog 14 [eTr t] (· = eTr (cpTr t)) := by
  intro h
  refine enter (by kernel_rfl) e14 (by kernel_rfl) rfl fun hok => ?_
  simp only [r14, initEnv_1]
  (try (simp (disch := first | omega | (simp <;> omega) | fail) only [push_cast, ↓reduceIte, Nat.reduceEqDiff, Nat.reduceAdd, Nat.reduceMul, Nat.reduceSub, Nat.reduceLT, Int.reduceToNat]))
  refine (c_laws_toBits_o t.sh h1).use fun x t1 l hR how => ?_
  subst hR
  obtain ⟨w1, F1, rfl, f1, f2, f3, f4, _⟩ := ow_bt how
  (try (simp (disch := first | omega | (simp <;> omega) | fail) only [push_cast, ↓reduceIte, Nat.reduceEqDiff, Nat.reduceAdd, Nat.reduceMul, Nat.reduceSub, Nat.reduceLT, Int.reduceToNat, f3, f4]))
  refine (c_laws_toBits_o t.en h2).use fun x t2 l2 hR how2 => ?_
  subst hR
  obtain ⟨w2, F2, rfl, k1, k2, k3, k4, _⟩ := ow_bt how2
  (try (simp (disch := first | omega | (simp <;> omega) | fail) only [push_cast, ↓reduceIte, Nat.reduceEqDiff, Nat.reduceAdd, Nat.reduceMul, Nat.reduceSub, Nat.reduceLT, Int.reduceToNat, f3, f4, k3, k4]))
  refine ⟨_, ow_tr (n0 := h.length) (f1.frame fun c hc => ?_) (k1.frame fun c hc => ?_) (fun c hc => ?_) (fun c hc => ⟨?_, fun hh => ?_⟩), rfl⟩
  · have h5 := f2 c hc
    have h6 := h5.1
    have h7 := h5.2
    rw [List.append_assoc]
    exact tl_k2 (p := [_, _, _]) (q := [_, _, _]) rfl (by simpa using h6) (by simp at h7 ⊢; omega)
  · have h5 := (k2 c hc).1
    rw [List.append_assoc]
    exact tl_k (p := [_, _, _]) (q := [_, _, _]) rfl (by simp at h5 ⊢; omega)
  · have h5 := (f2 c hc).1
    simp at h5
    omega
  · have h5 := (k2 c hc).1
    simp at h5
    omega
  · have h5 := (k2 c hc).1
    have h6 := (f2 c hh).2
    simp at h5 h6
    omega

def zF : AV := .tup [.int .i64 0, .bool false]
def paV (t : Tr) (i : Int) : AV := match trV t with
  | some K => if 1 ≤ i ∧ i ≤ ((nodesK K).length : Int) - 1 then .tup [.int .i64 (fndI (nodesK K) (((nodesK K).getD i.toNat []).take (((nodesK K).getD i.toNat []).length - 1))), .bool true] else zF
  | none => zF
def chR (N : List Str) (s : Str) : AV := if fndI N s < 0 then zF else .tup [.int .i64 (fndI N s), .bool true]
def chV (t : Tr) (i c : Int) : AV := match trV t with
  | some K => if (0 ≤ i ∧ i ≤ ((nodesK K).length : Int) - 1) ∧ (0 ≤ c ∧ c ≤ 255) then chR (nodesK K) ((nodesK K).getD i.toNat [] ++ [UInt8.ofNat c.toNat]) else zF
  | none => zF
def txV (t : Tr) (s : Str) : AV := match trV t with
  | some K => if s ∈ K then .tup [.int .i64 (fndI ((nodesK K).filter fun x => decide (x ∈ K)) s), .bool true] else zF
  | none => zF
def rkV (t : Tr) (s : Str) : AV := match trV t with
  | some K => .tup [.int .i64 (rkS K s), .bool true]
  | none => zF
def KyR (t : Tr) (p : Str → Bool) (v : AV) : Prop := ∃ o b, v = .tup [eS o, .bool b] ∧ ((b = true ∧ ∃ K, trV t = some K ∧ lS o = K.filter p) ∨ (b = false ∧ trV t = none ∧ lS o = []))
def okV (t : Tr) : AV := match trV t with
  | some K => .tup [eS (some (nodesK K)), .bool true]
  | none => .tup [.nils, .bool false]
theorem trV_ok {t : Tr} {K : List Str} (h : trV t = some K) : okKeys K = true ∧ K.length ≤ 40 := ⟨(trV_some h).keys, (okKeys_all (trV_some h).keys).2.2⟩
theorem KyR.no {t : Tr} {p : Str → Bool} (h : trV t = none) : KyR t p (.tup [.nils, .bool false]) := ⟨none, false, rfl, .inr ⟨rfl, h, rfl⟩⟩

theorem c_spec_trOk (t : Tr) : Fn Tryz.prog 53 [eTr t] (· = okV t) := by
  refine Fn.froze fun h => ?_
  refine enter (by kernel_rfl) e53 (by kernel_rfl) rfl fun hok => ?_
  simp only [r53, initEnv_1]
  have hk := c_spec_trKeys t
  have hkk := fun K => @trV_ok t K
  have hov : okV t = match trV t with | some K => .tup [eS (some (nodesK K)), .bool true] | none => .tup [.nils, .bool false] := rfl
  generalize okV t = R at hov
  obtain ⟨⟨ss, sw⟩, ⟨es, ew⟩, lab⟩ := t
  (try (simp (disch := first | omega | (simp <;> omega) | fail) only [push_cast, ↓reduceIte, Nat.reduceEqDiff, Nat.reduceAdd, Nat.reduceMul, Nat.reduceSub, Nat.reduceLT, Int.reduceToNat]))
  refine hk.use fun x hx => ?_
  obtain ⟨o, b, rfl, ⟨rfl, hx⟩ | ⟨rfl, hx⟩⟩ := hx
  · rw [hx] at hov
    simp only at hov
    subst hov
    have hN := c_spec_trNodes o (hkk _ hx).2
    (try (simp (disch := first | omega | (simp <;> omega) | fail) only [push_cast, ↓reduceIte, Nat.reduceEqDiff, Nat.reduceAdd, Nat.reduceMul, Nat.reduceSub, Nat.reduceLT, Int.reduceToNat]))
    refine hN.call ?_
    have hy : ∀ hh : H, Vw hh h.length (.tup [eS (some (nodesK (lS o))), .bool true]) (.tup [eS (some (nodesK (lS o))), .bool true]) := fun hh => .free (free_tup (free_cons_ free_eS (free_cons_ free_bool free_nil_)))
    (try (simp (disch := first | omega | (simp <;> omega) | fail) only [push_cast, ↓reduceIte, Nat.reduceEqDiff, Nat.reduceAdd, Nat.reduceMul, Nat.reduceSub, Nat.reduceLT, Int.reduceToNat]))
    all_goals (try exact hy _)
  · rw [hx] at hov
    simp only at hov
    subst hov
    have hy : ∀ hh : H, Vw hh h.length (.tup [.nils, .bool false]) (.tup [.nils, .bool false]) := fun hh => .free (free_tup (free_cons_ free_nils (free_cons_ free_bool free_nil_)))
    (try (simp (disch := first | omega | (simp <;> omega) | fail) only [push_cast, ↓reduceIte, Nat.reduceEqDiff, Nat.reduceAdd, Nat.reduceMul, Nat.reduceSub, Nat.reduceLT, Int.reduceToNat]))
    all_goals (try exact hy _)

theorem c_spec_trFind (o : Option (List Str)) (s : Str) : Fn Tryz.prog 55 [eS o, .str s] (· = .int .i64 (fndI (lS o) s)) := by
  refine Fn.of free_int fun h => ?_
  refine enter (by kernel_rfl) e55 (by kernel_rfl) rfl fun hok => ?_
  simp only [r55, initEnv_2]
  have hlen := ok_eS (okV_0 hok)
  (try (simp (disch := first | omega | (simp <;> omega) | fail) only [push_cast, ↓reduceIte, Nat.reduceEqDiff, Nat.reduceAdd, Nat.reduceMul, Nat.reduceSub, Nat.reduceLT, Int.reduceToNat]))
  refine T_for (lS o).length (fun i e h' => Pins e [(1, .str s), (7, eS o), (8, .int .i64 (lS o).length), (9, .int .i64 i)] ∧ h' = h ∧ s ∉ (lS o).take i) ?_ ?_
  · (try (simp (disch := first | omega | (simp <;> omega) | fail) only [push_cast, ↓reduceIte, Nat.reduceEqDiff, Nat.reduceAdd, Nat.reduceMul, Nat.reduceSub, Nat.reduceLT, Int.reduceToNat]))
    all_goals (try simp)
  rintro i e h' hi ⟨hp, rfl, ha⟩
  refine T_pins hp fun e => ?_
  (try (simp (disch := first | omega | (simp <;> omega) | fail) only [push_cast, ↓reduceIte, Nat.reduceEqDiff, Nat.reduceAdd, Nat.reduceMul, Nat.reduceSub, Nat.reduceLT, Int.reduceToNat]))
  first | refine goC_split (fun hc => ?_) (fun hc => ?_) | refine cnd_split (fun hc => ?_) (fun hc => ?_)
  · (try (simp only [decide_eq_true_eq, decide_eq_false_iff_not, Bool.not_eq_true', Bool.not_eq_false', Bool.and_eq_true, Bool.or_eq_true, Int.not_lt, Int.not_le] at hc)); (try (simp (disch := first | omega | (simp <;> omega) | fail) only [push_cast, ↓reduceIte, Nat.reduceEqDiff, Nat.reduceAdd, Nat.reduceMul, Nat.reduceSub, Nat.reduceLT, Int.reduceToNat]))
    have hi2 : i < (lS o).length := by omega
    have htk : (lS o).take (i + 1) = (lS o).take i ++ [(lS o).getD i []] := by
      rw [List.take_add_one]
      simp [hi2]
    by_cases hx : (lS o).getD i [] = s
    · rw [idx_at hi2 hx ha]
      (try (simp (disch := first | omega | (simp <;> omega) | fail) only [push_cast, ↓reduceIte, Nat.reduceEqDiff, Nat.reduceAdd, Nat.reduceMul, Nat.reduceSub, Nat.reduceLT, Int.reduceToNat, hx]))
    · have hn : s ∉ (lS o).take (i + 1) := by
        rw [htk, List.mem_append, List.mem_singleton]
        exact fun h5 => h5.elim ha fun h7 => hx h7.symm
      (try (simp (disch := first | omega | (simp <;> omega) | fail) only [push_cast, ↓reduceIte, Nat.reduceEqDiff, Nat.reduceAdd, Nat.reduceMul, Nat.reduceSub, Nat.reduceLT, Int.reduceToNat, hx]))
      all_goals (try exact hn)
  · (try (simp only [decide_eq_true_eq, decide_eq_false_iff_not, Bool.not_eq_true', Bool.not_eq_false', Bool.and_eq_true, Bool.or_eq_true, Int.not_lt, Int.not_le] at hc)); (try (simp (disch := first | omega | (simp <;> omega) | fail) only [push_cast, ↓reduceIte, Nat.reduceEqDiff, Nat.reduceAdd, Nat.reduceMul, Nat.reduceSub, Nat.reduceLT, Int.reduceToNat]))
    have hie : i = (lS o).length := by omega
    subst hie
    rw [List.take_length] at ha
    rw [fnd_no ha]
    (try (simp (disch := first | omega | (simp <;> omega) | fail) only [push_cast, ↓reduceIte, Nat.reduceEqDiff, Nat.reduceAdd, Nat.reduceMul, Nat.reduceSub, Nat.reduceLT, Int.reduceToNat]))

theorem c_spec_ChildOf (t : Tr) (i c : Int) : Fn Tryz.prog 17 [eTr t, .int .i64 i, .int .i64 c] (· = chV t i c) := by
  have hfz : Free zF := free_tup (free_cons_ free_int (free_cons_ free_bool free_nil_))
  refine Fn.of (by unfold chV chR; split <;> (try split) <;> (try split) <;> first | exact hfz | exact free_tup (free_cons_ free_int (free_cons_ free_bool free_nil_))) fun h => ?_
  clear hfz
  refine enter (by kernel_rfl) e17 (by kernel_rfl) rfl fun hok => ?_
  simp only [r17, initEnv_3]
  have hk := c_spec_trOk t
  have hkk := fun K => @trV_ok t K
  have hpv : chV t i c = match trV t with | some K => if (0 ≤ i ∧ i ≤ ((nodesK K).length : Int) - 1) ∧ (0 ≤ c ∧ c ≤ 255) then chR (nodesK K) ((nodesK K).getD i.toNat [] ++ [UInt8.ofNat c.toNat]) else zF | none => zF := rfl
  have hov : okV t = match trV t with | some K => .tup [eS (some (nodesK K)), .bool true] | none => .tup [.nils, .bool false] := rfl
  rw [hov] at hk
  clear hov
  generalize chV t i c = R at hpv
  cases hv : trV t with
  | none =>
    rw [hv] at hk hpv
    simp only at hk hpv
    subst hpv
    obtain ⟨⟨ss, sw⟩, ⟨es, ew⟩, lab⟩ := t
    (try (simp (disch := first | omega | (simp <;> omega) | fail) only [push_cast, ↓reduceIte, Nat.reduceEqDiff, Nat.reduceAdd, Nat.reduceMul, Nat.reduceSub, Nat.reduceLT, Int.reduceToNat]))
    refine hk.call ?_
    (try (simp (disch := first | omega | (simp <;> omega) | fail) only [push_cast, ↓reduceIte, Nat.reduceEqDiff, Nat.reduceAdd, Nat.reduceMul, Nat.reduceSub, Nat.reduceLT, Int.reduceToNat, zF]))
  | some K =>
    rw [hv] at hk hpv
    simp only at hk hpv
    have hKo := hkk K hv
    have hN1 := nodesK_cap hKo.2
    have hN12 := nodesK_len hKo.1
    generalize nodesK K = N at *
    have hlN : lS (some N) = N := rfl
    have hlNl : (lS (some N)).length = N.length := rfl
    obtain ⟨⟨ss, sw⟩, ⟨es, ew⟩, lab⟩ := t
    (try (simp (disch := first | omega | (simp <;> omega) | fail) only [push_cast, ↓reduceIte, Nat.reduceEqDiff, Nat.reduceAdd, Nat.reduceMul, Nat.reduceSub, Nat.reduceLT, Int.reduceToNat]))
    refine hk.call ?_
    (try (simp (disch := first | omega | (simp <;> omega) | fail) only [push_cast, ↓reduceIte, Nat.reduceEqDiff, Nat.reduceAdd, Nat.reduceMul, Nat.reduceSub, Nat.reduceLT, Int.reduceToNat, hlN]))
    refine (c_spec_l1In i 0 ((N.length : Int) - 1)).call ?_
    by_cases hc : 0 ≤ i ∧ i ≤ (N.length : Int) - 1
    · rw [decide_eq_true hc.1, decide_eq_true hc.2]
      (try (simp (disch := first | omega | (simp <;> omega) | fail) only [push_cast, ↓reduceIte, Nat.reduceEqDiff, Nat.reduceAdd, Nat.reduceMul, Nat.reduceSub, Nat.reduceLT, Int.reduceToNat, hlN]))
      refine (c_spec_l1In c 0 255).call ?_
      by_cases hd : 0 ≤ c ∧ c ≤ 255
      · rw [if_pos ⟨hc, hd⟩] at hpv
        rw [decide_eq_true hd.1, decide_eq_true hd.2]
        obtain ⟨j, rfl⟩ : ∃ j : Nat, i = (j : Int) := ⟨i.toNat, by omega⟩
        have hj : j < N.length := by omega
        rw [Int.toNat_natCast] at hpv
        obtain ⟨s, hs⟩ : ∃ s, s = N.getD j [] := ⟨_, rfl⟩
        have hsl : s.length ≤ 12 := hN12 s (by rw [hs]; simp [hj])
        have hgs : (N.map AV.str)[j]? = some (.str s) := by rw [hs]; exact get_S hj
        rw [← hs] at hpv
        have hwr : IntKind.u8.wrap c = c := wrap_u8 hd.1 hd.2
        obtain ⟨y, hy⟩ : ∃ y, y = s ++ [UInt8.ofNat c.toNat] := ⟨_, rfl⟩
        have hcat : abin .add (.str s) (.str [UInt8.ofNat c.toNat]) = some (.str y) := by
          rw [hy]
          refine abin_s_add ?_
          simp only [List.length_cons, List.length_nil]
          omega
        rw [← hy] at hpv
        have hcb : ∀ (A : Option AObj), cbsA (h ++ [A, some (.cells [.int .u8 c])]) (.sl (h.length + 1) 0 1 1 1) = some (.str [UInt8.ofNat c.toNat]) := fun A => by
          have e1 := cbsA_1 (h := h ++ [A]) (n := c)
          rw [List.append_assoc, List.length_append] at e1
          exact e1
        have hch : chR N y = if fndI N y < 0 then zF else .tup [.int .i64 (fndI N y), .bool true] := rfl
        rw [hch] at hpv
        have hlo := fnd_lo (l := N) (s := y)
        have hhi := fnd_hi (l := N) (s := y)
        (try (simp (disch := first | omega | (simp <;> omega) | fail) only [push_cast, ↓reduceIte, Nat.reduceEqDiff, Nat.reduceAdd, Nat.reduceMul, Nat.reduceSub, Nat.reduceLT, Int.reduceToNat, hlN, hgs, hwr, hcb, hcat, reads, List.mem_cons, List.mem_append, List.not_mem_nil, nat_ff, or_self, or_false, false_or, not_false_eq_true]))
        refine (c_spec_trFind (some N) y).call ?_
        rw [hlN]
        generalize fndI N y = k at *
        by_cases hk0 : k < 0
        · rw [if_pos hk0] at hpv
          (try (simp (disch := first | omega | (simp <;> omega) | fail) only [push_cast, ↓reduceIte, Nat.reduceEqDiff, Nat.reduceAdd, Nat.reduceMul, Nat.reduceSub, Nat.reduceLT, Int.reduceToNat, hk0, hpv, zF, reads, List.mem_cons, List.mem_append, List.not_mem_nil, nat_ff, or_self, or_false, false_or, not_false_eq_true]))
        · rw [if_neg hk0] at hpv
          (try (simp (disch := first | omega | (simp <;> omega) | fail) only [push_cast, ↓reduceIte, Nat.reduceEqDiff, Nat.reduceAdd, Nat.reduceMul, Nat.reduceSub, Nat.reduceLT, Int.reduceToNat, hk0, hpv, reads, List.mem_cons, List.mem_append, List.not_mem_nil, nat_ff, or_self, or_false, false_or, not_false_eq_true]))
      · rw [if_neg (fun h5 => hd h5.2)] at hpv
        subst hpv
        have hb : (decide (0 ≤ c) && decide (c ≤ 255)) = false := by
          rw [Bool.and_eq_false_iff, decide_eq_false_iff_not, decide_eq_false_iff_not]
          omega
        rw [hb]
        (try (simp (disch := first | omega | (simp <;> omega) | fail) only [push_cast, ↓reduceIte, Nat.reduceEqDiff, Nat.reduceAdd, Nat.reduceMul, Nat.reduceSub, Nat.reduceLT, Int.reduceToNat, zF]))
    · rw [if_neg (fun h5 => hc h5.1)] at hpv
      subst hpv
      have hb : (decide (0 ≤ i) && decide (i ≤ (N.length : Int) - 1)) = false := by
        rw [Bool.and_eq_false_iff, decide_eq_false_iff_not, decide_eq_false_iff_not]
        omega
      rw [hb]
      (try (simp (disch := first | omega | (simp <;> omega) | fail) only [push_cast, ↓reduceIte, Nat.reduceEqDiff, Nat.reduceAdd, Nat.reduceMul, Nat.reduceSub, Nat.reduceLT, Int.reduceToNat, zF]))

def nF : AV := .tup [.str [], .nils, .bool false]
def naV (t : Tr) (i : Int) : AV := match trV t with
  | some K => if 0 ≤ i ∧ i ≤ ((nodesK K).length : Int) - 1 then .tup [.str ((nodesK K).getD i.toNat []), eS (some (nodesK K)), .bool true] else nF
  | none => nF
theorem ow_nF {h : H} {x : AV} {G : Nat → Prop} (ho : Ow h [x] [nF] G) : x = nF := by
  obtain ⟨cs, rfl, h1⟩ := Ow.openTup (show Ow h [x] [.tup _] G from ho)
  rw [ow_atoms_eqT h1 (by simp [M.atom])]
  rfl
theorem nF_ow {h : H} {G : Nat → Prop} : Ow h [nF] [nF] G := (Ow.atom rfl (.atom rfl (.atom rfl .nil)) : Ow h [.str [], .nils, .bool false] [.str [], .nils, .bool false] G).tupOf
theorem ow_na {h : H} {x : AV} {s : Str} {N : List Str} {G : Nat → Prop} (ho : Ow h [x] [.tup [.str s, eS (some N), .bool true]] G) : ∃ b, x = .tup [.str s, .sl b 0 1 N.length N.length, .bool true] ∧ G b ∧ h.cells b = some (N.map .str) := by
  obtain ⟨cs, rfl, h1⟩ := Ow.openTup ho
  have hl : cs.length = 3 := h1.len.symm
  match cs, hl, h1 with
  | [x1, x2, x3], _, h1 =>
    obtain ⟨_, F, f1, h2, _, e1⟩ := h1.uncons
    obtain ⟨F2, F3, f2, h3, e2, e3⟩ := h2.uncons
    have a1 : x1 = .str s := f1.atomOf rfl
    have a3 : x3 = .bool true := h3.atomOf rfl
    obtain ⟨b, rfl, hb, hc⟩ := ow_strs f2
    subst a1 a3
    exact ⟨b, rfl, (e1 b (e2 b hb)).1, hc⟩
theorem own_zF {n : Nat} : Own n zF := own_tup (own_cons_ own_int (own_cons_ own_bool own_nil_))
theorem own_chR {n : Nat} {N : List Str} {s : Str} : Own n (chR N s) := by
  unfold chR
  split
  · exact own_zF
  · exact own_tup (own_cons_ own_int (own_cons_ own_bool own_nil_))
theorem free_zF : Free zF := free_tup (free_cons_ free_int (free_cons_ free_bool free_nil_))
theorem free_chR {N : List Str} {s : Str} : Free (chR N s) := by
  unfold chR
  split
  · exact free_zF
  · exact free_tup (free_cons_ free_int (free_cons_ free_bool free_nil_))
theorem chR_in {N : List Str} {s : Str} (h : s ∈ N) : chR N s = .tup [.int .i64 (fndI N s), .bool true] := by
  unfold chR
  rw [if_neg (fun h5 => fnd_neg.1 h5 h)]

theorem c_impl_Trie_nodeAt_o (t : Tr) (i : Int) : FnO Tryz.prog 57 [.rad (cTr t) 0, .int .i64 i] (· = naV t i) := by
  intro h
  refine enter (by kernel_rfl) e57 (by kernel_rfl) rfl fun hok => ?_
  simp only [r57, initEnv_2]
  have hn := c_impl_Trie_nodes_o t
  have hkk := fun K => @trV_ok t K
  have hnv : noV t = match trV t with | some K => eS (some (nodesK K)) | none => .nils := rfl
  have hna : naV t i = match trV t with | some K => if 0 ≤ i ∧ i ≤ ((nodesK K).length : Int) - 1 then .tup [.str ((nodesK K).getD i.toNat []), eS (some (nodesK K)), .bool true] else nF | none => nF := rfl
  rw [hnv] at hn
  clear hnv
  generalize naV t i = R at hna
  obtain ⟨⟨ss, sw⟩, ⟨es, ew⟩, lab⟩ := t
  have hnF : ∀ hh : H, ∃ t', Ow hh [.tup [.str [], .nils, .bool false]] [t'] (fun c => h.length ≤ c) ∧ t' = nF := fun hh => ⟨_, nF_ow, rfl⟩
  cases hv : trV ⟨⟨ss, sw⟩, ⟨es, ew⟩, lab⟩ with
  | none =>
    rw [hv] at hn hna
    simp only at hn hna
    subst hna
    (try (simp (disch := first | omega | (simp <;> omega) | fail) only [push_cast, ↓reduceIte, Nat.reduceEqDiff, Nat.reduceAdd, Nat.reduceMul, Nat.reduceSub, Nat.reduceLT, Int.reduceToNat]))
    refine hn.go fun x t' g hR hx how => ?_
    subst hR
    have hxn : x = .nils := how.atomOf rfl
    subst hxn
    (try (simp (disch := first | omega | (simp <;> omega) | fail) only [push_cast, ↓reduceIte, Nat.reduceEqDiff, Nat.reduceAdd, Nat.reduceMul, Nat.reduceSub, Nat.reduceLT, Int.reduceToNat]))
    refine (c_impl_in i 0 (0 - 1)).call ?_
    have hb : (decide (0 ≤ i) && decide (i ≤ 0 - 1)) = false := by
      rw [Bool.and_eq_false_iff, decide_eq_false_iff_not, decide_eq_false_iff_not]
      omega
    rw [hb]
    (try (simp (disch := first | omega | (simp <;> omega) | fail) only [push_cast, ↓reduceIte, Nat.reduceEqDiff, Nat.reduceAdd, Nat.reduceMul, Nat.reduceSub, Nat.reduceLT, Int.reduceToNat]))
    all_goals (try exact hnF _)
  | some K =>
    rw [hv] at hn hna
    simp only at hn hna
    have hKo := hkk K hv
    have hN1 := nodesK_cap hKo.2
    generalize nodesK K = N at *
    (try (simp (disch := first | omega | (simp <;> omega) | fail) only [push_cast, ↓reduceIte, Nat.reduceEqDiff, Nat.reduceAdd, Nat.reduceMul, Nat.reduceSub, Nat.reduceLT, Int.reduceToNat]))
    refine hn.go fun x t' g hR hx how => ?_
    subst hR
    obtain ⟨b, rfl, hb0, hcb⟩ := ow_strs how
    (try (simp (disch := first | omega | (simp <;> omega) | fail) only [push_cast, ↓reduceIte, Nat.reduceEqDiff, Nat.reduceAdd, Nat.reduceMul, Nat.reduceSub, Nat.reduceLT, Int.reduceToNat]))
    refine (c_impl_in i 0 ((N.length : Int) - 1)).call ?_
    by_cases hc : 0 ≤ i ∧ i ≤ (N.length : Int) - 1
    · rw [if_pos hc] at hna
      rw [decide_eq_true hc.1, decide_eq_true hc.2]
      obtain ⟨j, rfl⟩ : ∃ j : Nat, i = (j : Int) := ⟨i.toNat, by omega⟩
      have hj : j < N.length := by omega
      rw [Int.toNat_natCast] at hna
      obtain ⟨s, hs⟩ : ∃ s, s = N.getD j [] := ⟨_, rfl⟩
      have hgs : (N.map AV.str)[j]? = some (.str s) := by rw [hs]; exact get_S hj
      rw [← hs] at hna
      have hia : iaddrA 1 (.sl b 0 1 N.length N.length) (.int .i64 (j : Int)) = some (.adr b j) := by
        rw [iaddrA_sl (by omega) (by omega)]
        simp
      have hfin : ∃ t', Ow g [.tup [.str s, .sl b 0 1 N.length N.length, .bool true]] [t'] (fun c => h.length ≤ c) ∧ t' = R := by
        rw [hna]
        refine ⟨_, (Ow.atom rfl ((ow_strs_of (G := fun c => c = b) hcb rfl).cons (F' := fun _ => False) (.atom rfl .nil) (fun c hc => ?_) (fun _ h => h.elim)) : Ow g [.str s, .sl b 0 1 N.length N.length, .bool true] [.str s, eS (some N), .bool true] (fun c => h.length ≤ c)).tupOf, rfl⟩
        rw [hc]
        exact hb0.1
      (try (simp (disch := first | omega | (simp <;> omega) | fail) only [push_cast, ↓reduceIte, Nat.reduceEqDiff, Nat.reduceAdd, Nat.reduceMul, Nat.reduceSub, Nat.reduceLT, Int.reduceToNat, hia, hcb, hgs]))
      all_goals (try exact hfin)
    · rw [if_neg hc] at hna
      subst hna
      have hb : (decide (0 ≤ i) && decide (i ≤ (N.length : Int) - 1)) = false := by
        rw [Bool.and_eq_false_iff, decide_eq_false_iff_not, decide_eq_false_iff_not]
        omega
      rw [hb]
      (try (simp (disch := first | omega | (simp <;> omega) | fail) only [push_cast, ↓reduceIte, Nat.reduceEqDiff, Nat.reduceAdd, Nat.reduceMul, Nat.reduceSub, Nat.reduceLT, Int.reduceToNat]))
      all_goals (try exact hnF _)

theorem c_impl_placedAt (o : Option (List Str)) (s : Str) : Fn Tryz.prog 58 [eS o, .str s] (· = chR (lS o) s) := by
  refine Fn.of free_chR fun h => ?_
  refine enter (by kernel_rfl) e58 (by kernel_rfl) rfl fun hok => ?_
  simp only [r58, initEnv_2]
  have hlo := fnd_lo (l := lS o) (s := s)
  have hhi := fnd_hi (l := lS o) (s := s)
  have hlen := ok_eS (okV_0 hok)
  have hch : chR (lS o) s = if fndI (lS o) s < 0 then zF else .tup [.int .i64 (fndI (lS o) s), .bool true] := rfl
  rw [hch]
  (try (simp (disch := first | omega | (simp <;> omega) | fail) only [push_cast, ↓reduceIte, Nat.reduceEqDiff, Nat.reduceAdd, Nat.reduceMul, Nat.reduceSub, Nat.reduceLT, Int.reduceToNat]))
  refine (c_slices_Index_string o s).call ?_
  generalize fndI (lS o) s = k at *
  by_cases hk0 : k < 0
  · rw [if_pos hk0]
    have hk1 : k = -1 := by omega
    subst hk1
    (try (simp (disch := first | omega | (simp <;> omega) | fail) only [push_cast, ↓reduceIte, Nat.reduceEqDiff, Nat.reduceAdd, Nat.reduceMul, Nat.reduceSub, Nat.reduceLT, Int.reduceToNat, zF]))
    done
  · rw [if_neg hk0]
    have hk1 : (0 ≤ k) = True := by simp; omega
    (try (simp (disch := first | omega | (simp <;> omega) | fail) only [push_cast, ↓reduceIte, Nat.reduceEqDiff, Nat.reduceAdd, Nat.reduceMul, Nat.reduceSub, Nat.reduceLT, Int.reduceToNat, hk1]))
    done

theorem c_impl_ChildOf (t : Tr) (i c : Int) : Fn Tryz.prog 18 [eTr t, .int .i64 i, .int .i64 c] (· = chV t i c) := by
  refine Fn.of (by unfold chV; split <;> (try split) <;> first | exact free_zF | exact free_chR) fun h => ?_
  refine enter (by kernel_rfl) e18 (by kernel_rfl) rfl fun hok => ?_
  simp only [r18, initEnv_3]
  have hn := c_impl_Trie_nodeAt_o t i
  have hkk := fun K => @trV_ok t K
  have hpv : chV t i c = match trV t with | some K => if (0 ≤ i ∧ i ≤ ((nodesK K).length : Int) - 1) ∧ (0 ≤ c ∧ c ≤ 255) then chR (nodesK K) ((nodesK K).getD i.toNat [] ++ [UInt8.ofNat c.toNat]) else zF | none => zF := rfl
  have hna : naV t i = match trV t with | some K => if 0 ≤ i ∧ i ≤ ((nodesK K).length : Int) - 1 then .tup [.str ((nodesK K).getD i.toNat []), eS (some (nodesK K)), .bool true] else nF | none => nF := rfl
  have hfc := @free_cTr t
  rw [hna] at hn
  clear hna
  generalize chV t i c = R at hpv
  have hcb0 : H.cells (h ++ [some (.cells (cTr t))]) h.length = some (cTr t) := by rw [cells_h0]; rfl
  obtain ⟨⟨ss, sw⟩, ⟨es, ew⟩, lab⟩ := t
  (try (simp (disch := first | omega | (simp <;> omega) | fail) only [push_cast, ↓reduceIte, Nat.reduceEqDiff, Nat.reduceAdd, Nat.reduceMul, Nat.reduceSub, Nat.reduceLT, Int.reduceToNat]))
  cases hv : trV ⟨⟨ss, sw⟩, ⟨es, ew⟩, lab⟩ with
  | none =>
    rw [hv] at hn hpv
    simp only at hn hpv
    subst hpv
    refine hn.goL (.adr hcb0 hfc (.free free_int .nil)) fun x t' g hR hx how => ?_
    subst hR
    have hxn := ow_nF how
    subst hxn
    (try (simp (disch := first | omega | (simp <;> omega) | fail) only [push_cast, ↓reduceIte, Nat.reduceEqDiff, Nat.reduceAdd, Nat.reduceMul, Nat.reduceSub, Nat.reduceLT, Int.reduceToNat, nF, zF]))
    done
  | some K =>
    rw [hv] at hn hpv
    simp only at hn hpv
    have hKo := hkk K hv
    have hN12 := nodesK_len hKo.1
    generalize nodesK K = N at *
    by_cases hc : 0 ≤ i ∧ i ≤ (N.length : Int) - 1
    · rw [if_pos hc] at hn
      refine hn.goL (.adr hcb0 hfc (.free free_int .nil)) fun x t' g hR hx how => ?_
      subst hR
      obtain ⟨b, rfl, hb0, hcb⟩ := ow_na how
      (try (simp (disch := first | omega | (simp <;> omega) | fail) only [push_cast, ↓reduceIte, Nat.reduceEqDiff, Nat.reduceAdd, Nat.reduceMul, Nat.reduceSub, Nat.reduceLT, Int.reduceToNat]))
      refine (c_impl_in c 0 255).call ?_
      by_cases hd : 0 ≤ c ∧ c ≤ 255
      · rw [if_pos ⟨hc, hd⟩] at hpv
        rw [decide_eq_true hd.1, decide_eq_true hd.2]
        obtain ⟨j, rfl⟩ : ∃ j : Nat, i = (j : Int) := ⟨i.toNat, by omega⟩
        have hj : j < N.length := by omega
        rw [Int.toNat_natCast] at hpv ⊢
        obtain ⟨s, hs⟩ : ∃ s, s = N.getD j [] := ⟨_, rfl⟩
        have hsl : s.length ≤ 12 := hN12 s (by rw [hs]; simp [hj])
        rw [← hs] at hpv ⊢
        have hwr : IntKind.u8.wrap c = c := wrap_u8 hd.1 hd.2
        obtain ⟨y, hy⟩ : ∃ y, y = s ++ [UInt8.ofNat c.toNat] := ⟨_, rfl⟩
        have hcat : abin .add (.str s) (.str [UInt8.ofNat c.toNat]) = some (.str y) := by
          rw [hy]
          refine abin_s_add ?_
          simp only [List.length_cons, List.length_nil]
          omega
        rw [← hy] at hpv
        subst hpv
        (try (simp (disch := first | omega | (simp <;> omega) | fail) only [push_cast, ↓reduceIte, Nat.reduceEqDiff, Nat.reduceAdd, Nat.reduceMul, Nat.reduceSub, Nat.reduceLT, Int.reduceToNat, hwr, hcat]))
        refine (c_impl_placedAt (some N) y).lendL (.cons (vw_all (Nat.zero_le _) (cells_app hcb) (by simp) (one_map fun _ => rfl) (free_map_ fun _ => free_str)) (.free free_str .nil)) own_chR ?_
        have hlN : lS (some N) = N := rfl
        rw [hlN]
        have hch : chR N y = if fndI N y < 0 then zF else .tup [.int .i64 (fndI N y), .bool true] := rfl
        rw [hch]
        split
        · (try (simp (disch := first | omega | (simp <;> omega) | fail) only [push_cast, ↓reduceIte, Nat.reduceEqDiff, Nat.reduceAdd, Nat.reduceMul, Nat.reduceSub, Nat.reduceLT, Int.reduceToNat, zF]))
        · (try (simp (disch := first | omega | (simp <;> omega) | fail) only [push_cast, ↓reduceIte, Nat.reduceEqDiff, Nat.reduceAdd, Nat.reduceMul, Nat.reduceSub, Nat.reduceLT, Int.reduceToNat]))
      · rw [if_neg (fun h5 => hd h5.2)] at hpv
        subst hpv
        have hb : (decide (0 ≤ c) && decide (c ≤ 255)) = false := by
          rw [Bool.and_eq_false_iff, decide_eq_false_iff_not, decide_eq_false_iff_not]
          omega
        rw [hb]
        (try (simp (disch := first | omega | (simp <;> omega) | fail) only [push_cast, ↓reduceIte, Nat.reduceEqDiff, Nat.reduceAdd, Nat.reduceMul, Nat.reduceSub, Nat.reduceLT, Int.reduceToNat, zF]))
        done
    · rw [if_neg hc] at hn
      rw [if_neg (fun h5 => hc h5.1)] at hpv
      subst hpv
      refine hn.goL (.adr hcb0 hfc (.free free_int .nil)) fun x t' g hR hx how => ?_
      subst hR
      have hxn := ow_nF how
      subst hxn
      (try (simp (disch := first | omega | (simp <;> omega) | fail) only [push_cast, ↓reduceIte, Nat.reduceEqDiff, Nat.reduceAdd, Nat.reduceMul, Nat.reduceSub, Nat.reduceLT, Int.reduceToNat, nF, zF]))
      done

theorem c_laws_eqIntS (a b : Option (List Int)) : Fn Tryz.prog 91 [eI a, eI b] (· = .bool (decide (lI a = lI b))) := by
  refine Fn.of free_bool fun h => ?_
  refine enter (by kernel_rfl) e91 (by kernel_rfl) rfl fun hok => ?_
  simp only [r91, initEnv_2]
  have ha := ok_eI (okV_0 hok)
  have hb := ok_eI (okV_1 hok)
  (try (simp (disch := first | omega | (simp <;> omega) | fail) only [push_cast, ↓reduceIte, Nat.reduceEqDiff, Nat.reduceAdd, Nat.reduceMul, Nat.reduceSub, Nat.reduceLT, Int.reduceToNat]))
  first | refine goC_split (fun hc => ?_) (fun hc => ?_) | refine cnd_split (fun hc => ?_) (fun hc => ?_)
  · (try (simp only [decide_eq_true_eq, decide_eq_false_iff_not, Bool.not_eq_true', Bool.not_eq_false', Bool.and_eq_true, Bool.or_eq_true, Int.not_lt, Int.not_le] at hc)); (try (simp (disch := first | omega | (simp <;> omega) | fail) only [push_cast, ↓reduceIte, Nat.reduceEqDiff, Nat.reduceAdd, Nat.reduceMul, Nat.reduceSub, Nat.reduceLT, Int.reduceToNat]))
    congr 1
    symm
    rw [decide_eq_false_iff_not]
    intro he
    rw [he] at hc
    exact hc rfl
  have hlen : (lI a).length = (lI b).length := by (try (simp only [decide_eq_true_eq, decide_eq_false_iff_not, Bool.not_eq_true', Bool.not_eq_false', Bool.and_eq_true, Bool.or_eq_true, Int.not_lt, Int.not_le] at hc)); (try (simp (disch := first | omega | (simp <;> omega) | fail) only [push_cast, ↓reduceIte, Nat.reduceEqDiff, Nat.reduceAdd, Nat.reduceMul, Nat.reduceSub, Nat.reduceLT, Int.reduceToNat])); omega
  (try (simp (disch := first | omega | (simp <;> omega) | fail) only [push_cast, ↓reduceIte, Nat.reduceEqDiff, Nat.reduceAdd, Nat.reduceMul, Nat.reduceSub, Nat.reduceLT, Int.reduceToNat]))
  refine T_for (lI a).length (fun i e h' => Pins e [(0, eI a), (1, eI b), (5, .int .i64 i)] ∧ h' = h ∧ (lI a).take i = (lI b).take i) ?_ ?_
  · (try (simp (disch := first | omega | (simp <;> omega) | fail) only [push_cast, ↓reduceIte, Nat.reduceEqDiff, Nat.reduceAdd, Nat.reduceMul, Nat.reduceSub, Nat.reduceLT, Int.reduceToNat]))
    simp
  rintro i e h' hi ⟨hp, rfl, he⟩
  refine T_pins hp fun e => ?_
  (try (simp (disch := first | omega | (simp <;> omega) | fail) only [push_cast, ↓reduceIte, Nat.reduceEqDiff, Nat.reduceAdd, Nat.reduceMul, Nat.reduceSub, Nat.reduceLT, Int.reduceToNat]))
  first | refine goC_split (fun hc => ?_) (fun hc => ?_) | refine cnd_split (fun hc => ?_) (fun hc => ?_)
  · (try (simp only [decide_eq_true_eq, decide_eq_false_iff_not, Bool.not_eq_true', Bool.not_eq_false', Bool.and_eq_true, Bool.or_eq_true, Int.not_lt, Int.not_le] at hc)); (try (simp (disch := first | omega | (simp <;> omega) | fail) only [push_cast, ↓reduceIte, Nat.reduceEqDiff, Nat.reduceAdd, Nat.reduceMul, Nat.reduceSub, Nat.reduceLT, Int.reduceToNat]))
    have hi : i < (lI a).length := by omega
    (try (simp (disch := first | omega | (simp <;> omega) | fail) only [push_cast, ↓reduceIte, Nat.reduceEqDiff, Nat.reduceAdd, Nat.reduceMul, Nat.reduceSub, Nat.reduceLT, Int.reduceToNat]))
    first | refine goC_split (fun hc => ?_) (fun hc => ?_) | refine cnd_split (fun hc => ?_) (fun hc => ?_)
    · (try (simp only [decide_eq_true_eq, decide_eq_false_iff_not, Bool.not_eq_true', Bool.not_eq_false', Bool.and_eq_true, Bool.or_eq_true, Int.not_lt, Int.not_le] at hc)); (try (simp (disch := first | omega | (simp <;> omega) | fail) only [push_cast, ↓reduceIte, Nat.reduceEqDiff, Nat.reduceAdd, Nat.reduceMul, Nat.reduceSub, Nat.reduceLT, Int.reduceToNat]))
      congr 1
      symm
      rw [decide_eq_false_iff_not]
      intro he
      rw [he] at hc
      exact hc rfl
    · (try (simp only [decide_eq_true_eq, decide_eq_false_iff_not, Bool.not_eq_true', Bool.not_eq_false', Bool.and_eq_true, Bool.or_eq_true, Int.not_lt, Int.not_le] at hc)); (try (simp (disch := first | omega | (simp <;> omega) | fail) only [push_cast, ↓reduceIte, Nat.reduceEqDiff, Nat.reduceAdd, Nat.reduceMul, Nat.reduceSub, Nat.reduceLT, Int.reduceToNat]))
      have h1 : i < (lI b).length := by omega
      simp [hi, h1] at hc
      rw [List.take_add_one, List.take_add_one, he]
      simp [hi, h1, hc]
  · (try (simp only [decide_eq_true_eq, decide_eq_false_iff_not, Bool.not_eq_true', Bool.not_eq_false', Bool.and_eq_true, Bool.or_eq_true, Int.not_lt, Int.not_le] at hc)); (try (simp (disch := first | omega | (simp <;> omega) | fail) only [push_cast, ↓reduceIte, Nat.reduceEqDiff, Nat.reduceAdd, Nat.reduceMul, Nat.reduceSub, Nat.reduceLT, Int.reduceToNat]))
    have hi2 : i = (lI a).length := by omega
    congr 1
    symm
    rw [decide_eq_true_iff]
    rw [hi2, List.take_length] at he
    rw [he, hlen, List.take_length]

theorem c_laws_eqBits (b c : Bt) : Fn Tryz.prog 59 [eB b, eB c] (· = .bool (decide (b.size = c.size) && decide (lI b.words = lI c.words))) := by
  refine Fn.of free_bool fun h => ?_
  refine enter (by kernel_rfl) e59 (by kernel_rfl) rfl fun hok => ?_
  simp only [r59, initEnv_2]
  (try (simp (disch := first | omega | (simp <;> omega) | fail) only [push_cast, ↓reduceIte, Nat.reduceEqDiff, Nat.reduceAdd, Nat.reduceMul, Nat.reduceSub, Nat.reduceLT, Int.reduceToNat]))
  first | refine goC_split (fun hc => ?_) (fun hc => ?_) | refine cnd_split (fun hc => ?_) (fun hc => ?_)
  · (try (simp only [decide_eq_true_eq, decide_eq_false_iff_not, Bool.not_eq_true', Bool.not_eq_false', Bool.and_eq_true, Bool.or_eq_true, Int.not_lt, Int.not_le] at hc)); (try (simp (disch := first | omega | (simp <;> omega) | fail) only [push_cast, ↓reduceIte, Nat.reduceEqDiff, Nat.reduceAdd, Nat.reduceMul, Nat.reduceSub, Nat.reduceLT, Int.reduceToNat]))
  (try (simp only [decide_eq_true_eq, decide_eq_false_iff_not, Bool.not_eq_true', Bool.not_eq_false', Bool.and_eq_true, Bool.or_eq_true, Int.not_lt, Int.not_le] at hc)); (try (simp (disch := first | omega | (simp <;> omega) | fail) only [push_cast, ↓reduceIte, Nat.reduceEqDiff, Nat.reduceAdd, Nat.reduceMul, Nat.reduceSub, Nat.reduceLT, Int.reduceToNat]))
  refine (c_laws_eqIntS _ _).call ?_
  cases he : decide (lI b.words = lI c.words)
  · (try (simp (disch := first | omega | (simp <;> omega) | fail) only [push_cast, ↓reduceIte, Nat.reduceEqDiff, Nat.reduceAdd, Nat.reduceMul, Nat.reduceSub, Nat.reduceLT, Int.reduceToNat]))
    all_goals (try simp [hc])
  · (try (simp (disch := first | omega | (simp <;> omega) | fail) only [push_cast, ↓reduceIte, Nat.reduceEqDiff, Nat.reduceAdd, Nat.reduceMul, Nat.reduceSub, Nat.reduceLT, Int.reduceToNat]))
    all_goals (try simp [hc])

theorem c_laws_eqTrie (t : Tr) : Fn Tryz.prog 16 [eTr t, eTr t] (· = .bool true) := by
  refine Fn.of free_bool fun h => ?_
  refine enter (by kernel_rfl) e16 (by kernel_rfl) rfl fun hok => ?_
  simp only [r16, initEnv_2]
  have hb : ∀ b : Bt, Fn Tryz.prog 59 [eB b, eB b] (· = .bool true) := fun b => by
    have := c_laws_eqBits b b
    simpa using this
  (try (simp (disch := first | omega | (simp <;> omega) | fail) only [push_cast, ↓reduceIte, Nat.reduceEqDiff, Nat.reduceAdd, Nat.reduceMul, Nat.reduceSub, Nat.reduceLT, Int.reduceToNat]))
  refine (hb t.sh).call ?_
  (try (simp (disch := first | omega | (simp <;> omega) | fail) only [push_cast, ↓reduceIte, Nat.reduceEqDiff, Nat.reduceAdd, Nat.reduceMul, Nat.reduceSub, Nat.reduceLT, Int.reduceToNat]))
  refine (hb t.en).call ?_
  (try (simp (disch := first | omega | (simp <;> omega) | fail) only [push_cast, ↓reduceIte, Nat.reduceEqDiff, Nat.reduceAdd, Nat.reduceMul, Nat.reduceSub, Nat.reduceLT, Int.reduceToNat]))

def shTrie : Sh := .st [.st [.int .i64, .sl (.int .i64) 1], .st [.int .i64, .sl (.int .i64) 1], .str]
theorem fit_trie {zs : List AV} (h : Fit shTrie zs) : ∃ t, argOf shTrie zs = eTr t ∧ t.lab.length ≤ 9223372036854775807 := by
  obtain ⟨x1, y1, rfl, h1, h⟩ := fits_cons (fit_st h)
  obtain ⟨x2, y2, rfl, h2, h⟩ := fits_cons h
  obtain ⟨x3, y3, rfl, h3, h⟩ := fits_cons h
  obtain rfl := fits_nil h
  obtain ⟨a1, b1, rfl, g1, g⟩ := fits_cons (fit_st h1)
  obtain ⟨a2, b2, rfl, g2, g⟩ := fits_cons g
  obtain rfl := fits_nil g
  obtain ⟨a, rfl, _⟩ := fit_int g1
  obtain ⟨ws, rfl⟩ := fit_ints g2
  obtain ⟨c1, d1, rfl, k1, k⟩ := fits_cons (fit_st h2)
  obtain ⟨c2, d2, rfl, k2, k⟩ := fits_cons k
  obtain rfl := fits_nil k
  obtain ⟨c, rfl, _⟩ := fit_int k1
  obtain ⟨vs, rfl⟩ := fit_ints k2
  obtain ⟨lab, rfl, hl⟩ := fit_str h3
  exact ⟨⟨⟨a, ws⟩, ⟨c, vs⟩, lab⟩, rfl, hl⟩
def isZT (v : AV) : Prop := ∃ n b, v = .tup [.int .i64 n, .bool b]
theorem isZT_zF : isZT zF := ⟨_, _, rfl⟩
theorem isZT_ch {N : List Str} {s : Str} : isZT (chR N s) := by
  unfold chR
  split
  · exact isZT_zF
  · exact ⟨_, _, rfl⟩
theorem isZT_pa {t : Tr} {i : Int} : isZT (paV t i) := by
  unfold paV
  split
  · split
    · exact ⟨_, _, rfl⟩
    · exact isZT_zF
  · exact isZT_zF
theorem isZT_chV {t : Tr} {i c : Int} : isZT (chV t i c) := by
  unfold chV
  split
  · split
    · exact isZT_ch
    · exact isZT_zF
  · exact isZT_zF
theorem isZT_tx {t : Tr} {s : Str} : isZT (txV t s) := by
  unfold txV
  split
  · split
    · exact ⟨_, _, rfl⟩
    · exact isZT_zF
  · exact isZT_zF
theorem isZT_rk {t : Tr} {s : Str} : isZT (rkV t s) := by
  unfold rkV
  split
  · exact ⟨_, _, rfl⟩
  · exact isZT_zF

def sh_FnExactChildOf : List Sh := [shTrie, .int .i64, .int .i64]
theorem law_FnExactChildOf (ys : List AV) (hy : ArgsFit sh_FnExactChildOf ys) : Call Tryz.prog 4 ys [] Nowhere (fun x _ => x = .bool true) := by
  obtain ⟨x1, y1, rfl, h1, hy⟩ := argsFit_cons hy
  obtain ⟨x2, y2, rfl, h2, hy⟩ := argsFit_cons hy
  obtain ⟨x3, y3, rfl, h3, hy⟩ := argsFit_cons hy
  obtain rfl := argsFit_nil hy
  obtain ⟨t, he, hlr⟩ := fit_trie h1
  obtain ⟨i, rfl, hri⟩ := fit_int h2
  obtain ⟨c, rfl, hrc⟩ := fit_int h3
  rw [he]
  refine (?_ : ∀ h, Call Tryz.prog 4 [eTr t, .int .i64 i, .int .i64 c] h Nowhere (fun x _ => x = .bool true)) []
  intro h
  refine enter (by kernel_rfl) e4 (by kernel_rfl) rfl fun hok => ?_
  simp only [r4, initEnv_3]
  (try (simp (disch := first | omega | (simp <;> omega) | fail) only [push_cast, ↓reduceIte, Nat.reduceEqDiff, Nat.reduceAdd, Nat.reduceMul, Nat.reduceSub, Nat.reduceLT, Int.reduceToNat]))
  refine (c_laws_szTrie t 1048576 (by omega) (by omega) hlr).call ?_
  (try (simp (disch := first | omega | (simp <;> omega) | fail) only [push_cast, ↓reduceIte, Nat.reduceEqDiff, Nat.reduceAdd, Nat.reduceMul, Nat.reduceSub, Nat.reduceLT, Int.reduceToNat]))
  first | refine goC_split (fun hd => ?_) (fun hd => ?_) | refine cnd_split (fun hd => ?_) (fun hd => ?_)
  · (try (simp only [decide_eq_true_eq, decide_eq_false_iff_not, Bool.not_eq_true', Bool.not_eq_false', Bool.and_eq_true, Bool.or_eq_true, Int.not_lt, Int.not_le] at hd)); (try (simp (disch := first | omega | (simp <;> omega) | fail) only [push_cast, ↓reduceIte, Nat.reduceEqDiff, Nat.reduceAdd, Nat.reduceMul, Nat.reduceSub, Nat.reduceLT, Int.reduceToNat]))
  (try (simp only [decide_eq_true_eq, decide_eq_false_iff_not, Bool.not_eq_true', Bool.not_eq_false', Bool.and_eq_true, Bool.or_eq_true, Int.not_lt, Int.not_le] at hd)); (try (simp (disch := first | omega | (simp <;> omega) | fail) only [push_cast, ↓reduceIte, Nat.reduceEqDiff, Nat.reduceAdd, Nat.reduceMul, Nat.reduceSub, Nat.reduceLT, Int.reduceToNat]))
  have hw := szv_ok hd
  have hw1 : (lI t.sh.words).length ≤ 1048576 := by omega
  have hw2 : (lI t.en.words).length ≤ 1048576 := by omega
  refine (c_laws_toTrie t hw1 hw2).call ?_
  (try (simp (disch := first | omega | (simp <;> omega) | fail) only [push_cast, ↓reduceIte, Nat.reduceEqDiff, Nat.reduceAdd, Nat.reduceMul, Nat.reduceSub, Nat.reduceLT, Int.reduceToNat]))
  refine (c_spec_ChildOf (cpTr t) i c).call ?_
  obtain ⟨n, cc, hv⟩ := isZT_chV (t := cpTr t) (i := i) (c := c)
  have himp := c_impl_ChildOf (cpTr t) i c
  rw [hv] at himp ⊢
  (try (simp (disch := first | omega | (simp <;> omega) | fail) only [push_cast, ↓reduceIte, Nat.reduceEqDiff, Nat.reduceAdd, Nat.reduceMul, Nat.reduceSub, Nat.reduceLT, Int.reduceToNat]))
  refine (c_laws_toTrie t hw1 hw2).call ?_
  (try (simp (disch := first | omega | (simp <;> omega) | fail) only [push_cast, ↓reduceIte, Nat.reduceEqDiff, Nat.reduceAdd, Nat.reduceMul, Nat.reduceSub, Nat.reduceLT, Int.reduceToNat]))
  refine himp.call ?_
  cases cc
  all_goals
    (try (simp (disch := first | omega | (simp <;> omega) | fail) only [push_cast, ↓reduceIte, Nat.reduceEqDiff, Nat.reduceAdd, Nat.reduceMul, Nat.reduceSub, Nat.reduceLT, Int.reduceToNat]))
    refine (c_laws_toTrie t hw1 hw2).call ?_
    (try (simp (disch := first | omega | (simp <;> omega) | fail) only [push_cast, ↓reduceIte, Nat.reduceEqDiff, Nat.reduceAdd, Nat.reduceMul, Nat.reduceSub, Nat.reduceLT, Int.reduceToNat]))
    refine (c_laws_eqTrie (cpTr t)).call ?_
    (try (simp (disch := first | omega | (simp <;> omega) | fail) only [push_cast, ↓reduceIte, Nat.reduceEqDiff, Nat.reduceAdd, Nat.reduceMul, Nat.reduceSub, Nat.reduceLT, Int.reduceToNat]))

end Go.Proofs.YtidhhiecgehgfaaGreat.M
