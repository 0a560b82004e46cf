/-
  What the functions return.
-/
import Derived.Test.YtidhhiecgehgfaaGreatFzf
import Derived.Test.YtidhhiecgehgfaaGreatCy
namespace Go.Proofs.YtidhhiecgehgfaaGreat.M
open Go Go.RowKit
set_option linter.unusedVariables false
set_option linter.unusedSimpArgs false
set_option maxRecDepth 4000

theorem c_laws_szIntS (a : Option (List Int)) (left : Int) (hl0 : 0 ≤ left) (hleft : left ≤ 1048576) : Fn Tryz.prog 87 [eI a, .int .i64 left] (· = .int .i64 (szv left (lI a).length)) := by
  refine Fn.of free_int fun h => ?_
  refine enter (by kernel_rfl) e87 (by kernel_rfl) rfl fun hok => ?_
  simp only [r87, initEnv_2]
  have hlen := ok_eI (okV_0 hok)
  (try (simp (disch := first | omega | (simp <;> omega) | fail) only [push_cast, ↓reduceIte, Nat.reduceEqDiff, Nat.reduceAdd, Nat.reduceMul, Nat.reduceSub, Nat.reduceLT, Int.reduceToNat]))
  first | refine goC_split (fun hc => ?_) (fun hc => ?_) | refine cnd_split (fun hc => ?_) (fun hc => ?_)
  · (try (simp only [decide_eq_true_eq, decide_eq_false_iff_not, Bool.not_eq_true', Bool.not_eq_false', Bool.and_eq_true, Bool.or_eq_true, Int.not_lt, Int.not_le] at hc)); (try (simp (disch := first | omega | (simp <;> omega) | fail) only [push_cast, ↓reduceIte, Nat.reduceEqDiff, Nat.reduceAdd, Nat.reduceMul, Nat.reduceSub, Nat.reduceLT, Int.reduceToNat]))
    rw [szv, if_neg (by omega)]
  · (try (simp only [decide_eq_true_eq, decide_eq_false_iff_not, Bool.not_eq_true', Bool.not_eq_false', Bool.and_eq_true, Bool.or_eq_true, Int.not_lt, Int.not_le] at hc)); (try (simp (disch := first | omega | (simp <;> omega) | fail) only [push_cast, ↓reduceIte, Nat.reduceEqDiff, Nat.reduceAdd, Nat.reduceMul, Nat.reduceSub, Nat.reduceLT, Int.reduceToNat]))
    rw [szv, if_pos (by omega)]

theorem c_laws_szBits (b : Bt) (left : Int) (hl0 : 0 ≤ left) (hleft : left ≤ 1048576) : Fn Tryz.prog 52 [eB b, .int .i64 left] (· = .int .i64 (szv left (lI b.words).length)) := by
  refine Fn.of free_int fun h => ?_
  refine enter (by kernel_rfl) e52 (by kernel_rfl) rfl fun hok => ?_
  simp only [r52, initEnv_2]
  (try (simp (disch := first | omega | (simp <;> omega) | fail) only [push_cast, ↓reduceIte, Nat.reduceEqDiff, Nat.reduceAdd, Nat.reduceMul, Nat.reduceSub, Nat.reduceLT, Int.reduceToNat]))
  refine (c_laws_szIntS _ _ hl0 hleft).call ?_
  (try (simp (disch := first | omega | (simp <;> omega) | fail) only [push_cast, ↓reduceIte, Nat.reduceEqDiff, Nat.reduceAdd, Nat.reduceMul, Nat.reduceSub, Nat.reduceLT, Int.reduceToNat]))
  first | refine goC_split (fun hc => ?_) (fun hc => ?_) | refine cnd_split (fun hc => ?_) (fun hc => ?_)
  · (try (simp only [decide_eq_true_eq, decide_eq_false_iff_not, Bool.not_eq_true', Bool.not_eq_false', Bool.and_eq_true, Bool.or_eq_true, Int.not_lt, Int.not_le] at hc)); (try (simp (disch := first | omega | (simp <;> omega) | fail) only [push_cast, ↓reduceIte, Nat.reduceEqDiff, Nat.reduceAdd, Nat.reduceMul, Nat.reduceSub, Nat.reduceLT, Int.reduceToNat]))
    unfold szv at hc ⊢
    split at hc
    · omega
    · rename_i hn
      rw [if_neg hn]
  · (try (simp only [decide_eq_true_eq, decide_eq_false_iff_not, Bool.not_eq_true', Bool.not_eq_false', Bool.and_eq_true, Bool.or_eq_true, Int.not_lt, Int.not_le] at hc)); (try (simp (disch := first | omega | (simp <;> omega) | fail) only [push_cast, ↓reduceIte, Nat.reduceEqDiff, Nat.reduceAdd, Nat.reduceMul, Nat.reduceSub, Nat.reduceLT, Int.reduceToNat]))

theorem c_laws_szTrie (t : Tr) (left : Int) (hl0 : 0 ≤ left) (hleft : left ≤ 1048576) (hlab : t.lab.length ≤ 9223372036854775807) : Fn Tryz.prog 12 [eTr t, .int .i64 left] (· = .int .i64 (szv left ((lI t.sh.words).length + (lI t.en.words).length + t.lab.length))) := by
  refine Fn.of free_int fun h => ?_
  refine enter (by kernel_rfl) e12 (by kernel_rfl) rfl fun hok => ?_
  simp only [r12, initEnv_2]
  (try (simp (disch := first | omega | (simp <;> omega) | fail) only [push_cast, ↓reduceIte, Nat.reduceEqDiff, Nat.reduceAdd, Nat.reduceMul, Nat.reduceSub, Nat.reduceLT, Int.reduceToNat]))
  refine (c_laws_szBits t.sh left hl0 hleft).call ?_
  (try (simp (disch := first | omega | (simp <;> omega) | fail) only [push_cast, ↓reduceIte, Nat.reduceEqDiff, Nat.reduceAdd, Nat.reduceMul, Nat.reduceSub, Nat.reduceLT, Int.reduceToNat]))
  first | refine goC_split (fun hc => ?_) (fun hc => ?_) | refine cnd_split (fun hc => ?_) (fun hc => ?_)
  · (try (simp only [decide_eq_true_eq, decide_eq_false_iff_not, Bool.not_eq_true', Bool.not_eq_false', Bool.and_eq_true, Bool.or_eq_true, Int.not_lt, Int.not_le] at hc)); (try (simp (disch := first | omega | (simp <;> omega) | fail) only [push_cast, ↓reduceIte, Nat.reduceEqDiff, Nat.reduceAdd, Nat.reduceMul, Nat.reduceSub, Nat.reduceLT, Int.reduceToNat]))
    unfold szv at hc ⊢
    split at hc
    · omega
    · rw [if_neg (by omega)]
  (try (simp only [decide_eq_true_eq, decide_eq_false_iff_not, Bool.not_eq_true', Bool.not_eq_false', Bool.and_eq_true, Bool.or_eq_true, Int.not_lt, Int.not_le] at hc)); (try (simp (disch := first | omega | (simp <;> omega) | fail) only [push_cast, ↓reduceIte, Nat.reduceEqDiff, Nat.reduceAdd, Nat.reduceMul, Nat.reduceSub, Nat.reduceLT, Int.reduceToNat]))
  refine (c_laws_szBits t.en _ hc (by unfold szv; split <;> omega)).call ?_
  (try (simp (disch := first | omega | (simp <;> omega) | fail) only [push_cast, ↓reduceIte, Nat.reduceEqDiff, Nat.reduceAdd, Nat.reduceMul, Nat.reduceSub, Nat.reduceLT, Int.reduceToNat]))
  first | refine goC_split (fun hd => ?_) (fun hd => ?_) | refine cnd_split (fun hd => ?_) (fun hd => ?_)
  · (try (simp only [decide_eq_true_eq, decide_eq_false_iff_not, Bool.not_eq_true', Bool.not_eq_false', Bool.and_eq_true, Bool.or_eq_true, Int.not_lt, Int.not_le] at hd)); (try (simp (disch := first | omega | (simp <;> omega) | fail) only [push_cast, ↓reduceIte, Nat.reduceEqDiff, Nat.reduceAdd, Nat.reduceMul, Nat.reduceSub, Nat.reduceLT, Int.reduceToNat]))
    unfold szv at hc hd ⊢
    split at hc
    · split at hd
      · omega
      · rw [if_neg (by omega)]
    · omega
  (try (simp only [decide_eq_true_eq, decide_eq_false_iff_not, Bool.not_eq_true', Bool.not_eq_false', Bool.and_eq_true, Bool.or_eq_true, Int.not_lt, Int.not_le] at hd)); (try (simp (disch := first | omega | (simp <;> omega) | fail) only [push_cast, ↓reduceIte, Nat.reduceEqDiff, Nat.reduceAdd, Nat.reduceMul, Nat.reduceSub, Nat.reduceLT, Int.reduceToNat]))
  have hv2 : szv (szv left (lI t.sh.words).length) (lI t.en.words).length = left - (lI t.sh.words).length - (lI t.en.words).length ∧ (lI t.sh.words).length + (lI t.en.words).length ≤ left := by
    unfold szv at hc hd ⊢
    split at hc
    · rename_i h1
      rw [if_pos h1] at hd ⊢
      split at hd
      · rename_i h2
        rw [if_pos h2]
        omega
      · omega
    · omega
  rw [hv2.1]
  clear hd hc
  (try (simp (disch := first | omega | (simp <;> omega) | fail) only [push_cast, ↓reduceIte, Nat.reduceEqDiff, Nat.reduceAdd, Nat.reduceMul, Nat.reduceSub, Nat.reduceLT, Int.reduceToNat]))
  first | refine goC_split (fun hd => ?_) (fun hd => ?_) | refine cnd_split (fun hd => ?_) (fun hd => ?_)
  · (try (simp only [decide_eq_true_eq, decide_eq_false_iff_not, Bool.not_eq_true', Bool.not_eq_false', Bool.and_eq_true, Bool.or_eq_true, Int.not_lt, Int.not_le] at hd)); (try (simp (disch := first | omega | (simp <;> omega) | fail) only [push_cast, ↓reduceIte, Nat.reduceEqDiff, Nat.reduceAdd, Nat.reduceMul, Nat.reduceSub, Nat.reduceLT, Int.reduceToNat]))
    unfold szv
    rw [if_neg (by omega)]
  · (try (simp only [decide_eq_true_eq, decide_eq_false_iff_not, Bool.not_eq_true', Bool.not_eq_false', Bool.and_eq_true, Bool.or_eq_true, Int.not_lt, Int.not_le] at hd)); (try (simp (disch := first | omega | (simp <;> omega) | fail) only [push_cast, ↓reduceIte, Nat.reduceEqDiff, Nat.reduceAdd, Nat.reduceMul, Nat.reduceSub, Nat.reduceLT, Int.reduceToNat]))
    unfold szv
    rw [if_pos (by omega)]
    have : left - (lI t.sh.words).length - (lI t.en.words).length - (t.lab.length : Int) = left - (((lI t.sh.words).length + (lI t.en.words).length + t.lab.length : Nat) : Int) := by omega
    rw [this]

theorem c_laws_toIntS_o (a : Option (List Int)) (ha : (lI a).length ≤ 1048576) : FnO Tryz.prog 89 [eI a] (· = eI (some (lI a))) := by
  intro h
  refine enter (by kernel_rfl) e89 (by kernel_rfl) rfl fun hok => ?_
  simp only [r89, initEnv_1]
  (try (simp (disch := first | omega | (simp <;> omega) | fail) only [push_cast, ↓reduceIte, Nat.reduceEqDiff, Nat.reduceAdd, Nat.reduceMul, Nat.reduceSub, Nat.reduceLT, Int.reduceToNat]))
  refine T_for (lI a).length (fun i e h' => Pins e [(0, eI a), (3, .sl h.length 0 1 (lI a).length (lI a).length), (4, .int .i64 i)] ∧ h' = h ++ [some (.cells (fill (.int .i64) (lI a) (.int .i64 0) i))]) ?_ ?_
  · (try (simp (disch := first | omega | (simp <;> omega) | fail) only [push_cast, ↓reduceIte, Nat.reduceEqDiff, Nat.reduceAdd, Nat.reduceMul, Nat.reduceSub, Nat.reduceLT, Int.reduceToNat, fill_0]))
  rintro i e h' hi ⟨hp, rfl⟩
  refine T_pins hp fun e => ?_
  (try (simp (disch := first | omega | (simp <;> omega) | fail) only [push_cast, ↓reduceIte, Nat.reduceEqDiff, Nat.reduceAdd, Nat.reduceMul, Nat.reduceSub, Nat.reduceLT, Int.reduceToNat]))
  first | refine goC_split (fun hc => ?_) (fun hc => ?_) | refine cnd_split (fun hc => ?_) (fun hc => ?_)
  · (try (simp only [decide_eq_true_eq, decide_eq_false_iff_not, Bool.not_eq_true', Bool.not_eq_false', Bool.and_eq_true, Bool.or_eq_true, Int.not_lt, Int.not_le] at hc)); (try (simp (disch := first | omega | (simp <;> omega) | fail) only [push_cast, ↓reduceIte, Nat.reduceEqDiff, Nat.reduceAdd, Nat.reduceMul, Nat.reduceSub, Nat.reduceLT, Int.reduceToNat]))
    (try (simp (disch := first | omega | (simp <;> omega) | fail) only [push_cast, ↓reduceIte, Nat.reduceEqDiff, Nat.reduceAdd, Nat.reduceMul, Nat.reduceSub, Nat.reduceLT, Int.reduceToNat, fill_len hi]))
    rw [fill_next (d := 0) (by omega) rfl]
  · (try (simp only [decide_eq_true_eq, decide_eq_false_iff_not, Bool.not_eq_true', Bool.not_eq_false', Bool.and_eq_true, Bool.or_eq_true, Int.not_lt, Int.not_le] at hc)); (try (simp (disch := first | omega | (simp <;> omega) | fail) only [push_cast, ↓reduceIte, Nat.reduceEqDiff, Nat.reduceAdd, Nat.reduceMul, Nat.reduceSub, Nat.reduceLT, Int.reduceToNat]))
    rw [fill_all (by omega)]
    exact ⟨_, ow_map (fun _ => rfl) (by rw [cells_h0]; rfl) rfl (Nat.le_refl _), rfl⟩
theorem c_laws_toIntS (a : Option (List Int)) (ha : (lI a).length ≤ 1048576) : Fn Tryz.prog 89 [eI a] (· = eI (some (lI a))) := (c_laws_toIntS_o a ha).fn

theorem c_laws_toBits_o (b : Bt) (ha : (lI b.words).length ≤ 1048576) : FnO Tryz.prog 56 [eB b] (· = eB (cpB b)) := by
  intro h
  refine enter (by kernel_rfl) e56 (by kernel_rfl) rfl fun hok => ?_
  simp only [r56, initEnv_1]
  (try (simp (disch := first | omega | (simp <;> omega) | fail) only [push_cast, ↓reduceIte, Nat.reduceEqDiff, Nat.reduceAdd, Nat.reduceMul, Nat.reduceSub, Nat.reduceLT, Int.reduceToNat]))
  refine (c_laws_toIntS_o _ ha).use fun x t l hR how => ?_
  subst hR
  obtain ⟨bb, rfl⟩ := Ow.sl1 (show Ow _ [x] [.ro 1 _ _] _ from how)
  (try (simp (disch := first | omega | (simp <;> omega) | fail) only [push_cast, ↓reduceIte, Nat.reduceEqDiff, Nat.reduceAdd, Nat.reduceMul, Nat.reduceSub, Nat.reduceLT, Int.reduceToNat]))
  refine ⟨_, (Ow.atom rfl (how.shift (fun c hc => ?_) (by simp))).aggOf, rfl⟩
  rw [List.append_assoc]
  exact tl_k (p := [_, _, _]) (q := [_, _, _]) rfl (by simpa using hc)
theorem c_laws_toBits (b : Bt) (ha : (lI b.words).length ≤ 1048576) : Fn Tryz.prog 56 [eB b] (· = eB (cpB b)) := (c_laws_toBits_o b ha).fn

def cpTr (t : Tr) : Tr := ⟨cpB t.sh, cpB t.en, t.lab⟩

theorem c_laws_toTrie (t : Tr) (h1 : (lI t.sh.words).length ≤ 1048576) (h2 : (lI t.en.words).length ≤ 1048576) : Fn Tryz.prog 14 [eTr t] (· = eTr (cpTr t)) := by
  refine Fn.of free_eTr fun h => ?_
  refine enter (by kernel_rfl) e14 (by kernel_rfl) rfl fun hok => ?_
  simp only [r14, initEnv_1]
  (try (simp (disch := first | omega | (simp <;> omega) | fail) only [push_cast, ↓reduceIte, Nat.reduceEqDiff, Nat.reduceAdd, Nat.reduceMul, Nat.reduceSub, Nat.reduceLT, Int.reduceToNat]))
  refine (c_laws_toBits t.sh h1).call ?_
  (try (simp (disch := first | omega | (simp <;> omega) | fail) only [push_cast, ↓reduceIte, Nat.reduceEqDiff, Nat.reduceAdd, Nat.reduceMul, Nat.reduceSub, Nat.reduceLT, Int.reduceToNat]))
  refine (c_laws_toBits t.en h2).call ?_
  (try (simp (disch := first | omega | (simp <;> omega) | fail) only [push_cast, ↓reduceIte, Nat.reduceEqDiff, Nat.reduceAdd, Nat.reduceMul, Nat.reduceSub, Nat.reduceLT, Int.reduceToNat]))
  all_goals (try rfl)
theorem c_laws_toTrie_o (t : Tr) (h1 : (lI t.sh.words).length ≤ 1048576) (h2 : (lI t.en.words).length ≤ 1048576) : FnO Tryz.prog 14 [eTr t] (· = eTr (cpTr t)) := by
  intro h
  refine enter (by kernel_rfl) e14 (by kernel_rfl) rfl fun hok => ?_
  simp only [r14, initEnv_1]
  (try (simp (disch := first | omega | (simp <;> omega) | fail) only [push_cast, ↓reduceIte, Nat.reduceEqDiff, Nat.reduceAdd, Nat.reduceMul, Nat.reduceSub, Nat.reduceLT, Int.reduceToNat]))
  refine (c_laws_toBits_o t.sh h1).use fun x t1 l hR how => ?_
  subst hR
  obtain ⟨w1, F1, rfl, f1, f2, f3, f4, _⟩ := ow_bt how
  (try (simp (disch := first | omega | (simp <;> omega) | fail) only [push_cast, ↓reduceIte, Nat.reduceEqDiff, Nat.reduceAdd, Nat.reduceMul, Nat.reduceSub, Nat.reduceLT, Int.reduceToNat, f3, f4]))
  refine (c_laws_toBits_o t.en h2).use fun x t2 l2 hR how2 => ?_
  subst hR
  obtain ⟨w2, F2, rfl, k1, k2, k3, k4, _⟩ := ow_bt how2
  (try (simp (disch := first | omega | (simp <;> omega) | fail) only [push_cast, ↓reduceIte, Nat.reduceEqDiff, Nat.reduceAdd, Nat.reduceMul, Nat.reduceSub, Nat.reduceLT, Int.reduceToNat, f3, f4, k3, k4]))
  refine ⟨_, ow_tr (n0 := h.length) (f1.frame fun c hc => ?_) (k1.frame fun c hc => ?_) (fun c hc => ?_) (fun c hc => ⟨?_, fun hh => ?_⟩), rfl⟩
  · have h5 := f2 c hc
    have h6 := h5.1
    have h7 := h5.2
    rw [List.append_assoc]
    exact tl_k2 (p := [_, _, _]) (q := [_, _, _]) rfl (by simpa using h6) (by simp at h7 ⊢; omega)
  · have h5 := (k2 c hc).1
    rw [List.append_assoc]
    exact tl_k (p := [_, _, _]) (q := [_, _, _]) rfl (by simp at h5 ⊢; omega)
  · have h5 := (f2 c hc).1
    simp at h5
    omega
  · have h5 := (k2 c hc).1
    simp at h5
    omega
  · have h5 := (k2 c hc).1
    have h6 := (f2 c hh).2
    simp at h5 h6
    omega

def zF : AV := .tup [.int .i64 0, .bool false]
def paV (t : Tr) (i : Int) : AV := match trV t with
  | some K => if 1 ≤ i ∧ i ≤ ((nodesK K).length : Int) - 1 then .tup [.int .i64 (fndI (nodesK K) (((nodesK K).getD i.toNat []).take (((nodesK K).getD i.toNat []).length - 1))), .bool true] else zF
  | none => zF
def chR (N : List Str) (s : Str) : AV := if fndI N s < 0 then zF else .tup [.int .i64 (fndI N s), .bool true]
def chV (t : Tr) (i c : Int) : AV := match trV t with
  | some K => if (0 ≤ i ∧ i ≤ ((nodesK K).length : Int) - 1) ∧ (0 ≤ c ∧ c ≤ 255) then chR (nodesK K) ((nodesK K).getD i.toNat [] ++ [UInt8.ofNat c.toNat]) else zF
  | none => zF
def txV (t : Tr) (s : Str) : AV := match trV t with
  | some K => if s ∈ K then .tup [.int .i64 (fndI ((nodesK K).filter fun x => decide (x ∈ K)) s), .bool true] else zF
  | none => zF
def rkV (t : Tr) (s : Str) : AV := match trV t with
  | some K => .tup [.int .i64 (rkS K s), .bool true]
  | none => zF
def KyR (t : Tr) (p : Str → Bool) (v : AV) : Prop := ∃ o b, v = .tup [eS o, .bool b] ∧ ((b = true ∧ ∃ K, trV t = some K ∧ lS o = K.filter p) ∨ (b = false ∧ trV t = none ∧ lS o = []))
def okV (t : Tr) : AV := match trV t with
  | some K => .tup [eS (some (nodesK K)), .bool true]
  | none => .tup [.nils, .bool false]
theorem trV_ok {t : Tr} {K : List Str} (h : trV t = some K) : okKeys K = true ∧ K.length ≤ 40 := ⟨(trV_some h).keys, (okKeys_all (trV_some h).keys).2.2⟩
theorem KyR.no {t : Tr} {p : Str → Bool} (h : trV t = none) : KyR t p (.tup [.nils, .bool false]) := ⟨none, false, rfl, .inr ⟨rfl, h, rfl⟩⟩

def nF : AV := .tup [.str [], .nils, .bool false]
def naV (t : Tr) (i : Int) : AV := match trV t with
  | some K => if 0 ≤ i ∧ i ≤ ((nodesK K).length : Int) - 1 then .tup [.str ((nodesK K).getD i.toNat []), eS (some (nodesK K)), .bool true] else nF
  | none => nF
theorem ow_nF {h : H} {x : AV} {G : Nat → Prop} (ho : Ow h [x] [nF] G) : x = nF := by
  obtain ⟨cs, rfl, h1⟩ := Ow.openTup (show Ow h [x] [.tup _] G from ho)
  rw [ow_atoms_eqT h1 (by simp [M.atom])]
  rfl
theorem nF_ow {h : H} {G : Nat → Prop} : Ow h [nF] [nF] G := (Ow.atom rfl (.atom rfl (.atom rfl .nil)) : Ow h [.str [], .nils, .bool false] [.str [], .nils, .bool false] G).tupOf
theorem ow_na {h : H} {x : AV} {s : Str} {N : List Str} {G : Nat → Prop} (ho : Ow h [x] [.tup [.str s, eS (some N), .bool true]] G) : ∃ b, x = .tup [.str s, .sl b 0 1 N.length N.length, .bool true] ∧ G b ∧ h.cells b = some (N.map .str) := by
  obtain ⟨cs, rfl, h1⟩ := Ow.openTup ho
  have hl : cs.length = 3 := h1.len.symm
  match cs, hl, h1 with
  | [x1, x2, x3], _, h1 =>
    obtain ⟨_, F, f1, h2, _, e1⟩ := h1.uncons
    obtain ⟨F2, F3, f2, h3, e2, e3⟩ := h2.uncons
    have a1 : x1 = .str s := f1.atomOf rfl
    have a3 : x3 = .bool true := h3.atomOf rfl
    obtain ⟨b, rfl, hb, hc⟩ := ow_strs f2
    subst a1 a3
    exact ⟨b, rfl, (e1 b (e2 b hb)).1, hc⟩
theorem own_zF {n : Nat} : Own n zF := own_tup (own_cons_ own_int (own_cons_ own_bool own_nil_))
theorem own_chR {n : Nat} {N : List Str} {s : Str} : Own n (chR N s) := by
  unfold chR
  split
  · exact own_zF
  · exact own_tup (own_cons_ own_int (own_cons_ own_bool own_nil_))
theorem free_zF : Free zF := free_tup (free_cons_ free_int (free_cons_ free_bool free_nil_))
theorem free_chR {N : List Str} {s : Str} : Free (chR N s) := by
  unfold chR
  split
  · exact free_zF
  · exact free_tup (free_cons_ free_int (free_cons_ free_bool free_nil_))
theorem chR_in {N : List Str} {s : Str} (h : s ∈ N) : chR N s = .tup [.int .i64 (fndI N s), .bool true] := by
  unfold chR
  rw [if_neg (fun h5 => fnd_neg.1 h5 h)]

def fnV (t : Tr) (s : Str) : AV := match trV t with
  | some K => chR (nodesK K) s
  | none => zF
theorem chR_nil {s : Str} : chR [] s = zF := by
  unfold chR
  rw [if_pos (by rw [fnd_no (by simp)]; decide)]

theorem cnt_ends {t : Tr} {K : List Str} (h : TrI t K) {i : Nat} (hi : i ≤ (nodesK K).length) : ((List.range i).filter (numW (lI t.en.words)).testBit).length = (((nodesK K).take i).filter fun x => decide (x ∈ K)).length := by
  have h1 := endsTo_filter (P := nodesK K) (g := atB t.en) (p := fun x => decide (x ∈ K)) i hi fun j hj => h.at_ (by omega)
  rw [← h1]
  unfold endsTo
  rw [List.length_map]
  rfl
theorem tx_at {t : Tr} {K : List Str} (h : TrI t K) {s : Str} {i : Nat} (hf : fndI (nodesK K) s = i) : i < (nodesK K).length ∧ atB t.en i = decide (s ∈ K) := by
  have hi := fnd_hi (l := nodesK K) (s := s)
  have hl : i < (nodesK K).length := by omega
  have hm : s ∈ nodesK K := by
    apply Classical.byContradiction
    intro h5
    rw [fnd_no h5] at hf
    omega
  obtain ⟨j, h1, _, h3, _⟩ := fnd_in hm
  have : j = i := by omega
  subst this
  exact ⟨hl, by rw [h.at_ hl, h3]⟩
theorem TrI.words {t : Tr} {K : List Str} (h : TrI t K) : okBt t.en = true := (okT0_in h.ok0).2.1

theorem KyR_all {t : Tr} {o : Option (List Str)} {b : Bool} (h : (b = true ∧ trV t = some (lS o)) ∨ (b = false ∧ trV t = none ∧ lS o = [])) : KyR t (fun _ => true) (.tup [eS o, .bool b]) := by
  refine ⟨o, b, rfl, ?_⟩
  rcases h with ⟨h1, h2⟩ | ⟨h1, h2, h3⟩
  · exact .inl ⟨h1, _, h2, (List.filter_eq_self.2 fun _ _ => rfl).symm⟩
  · exact .inr ⟨h1, h2, h3⟩
theorem KyR_get {t : Tr} {v : AV} (h : KyR t (fun _ => true) v) : ∃ o b, v = .tup [eS o, .bool b] ∧ ((b = true ∧ trV t = some (lS o)) ∨ (b = false ∧ trV t = none ∧ lS o = [])) := by
  obtain ⟨o, b, rfl, h⟩ := h
  refine ⟨o, b, rfl, ?_⟩
  rcases h with ⟨h1, K, h2, h3⟩ | h1
  · rw [List.filter_eq_self.2 fun _ _ => rfl] at h3
    exact .inl ⟨h1, by rw [h3]; exact h2⟩
  · exact .inr h1
theorem ow_tup2 {h : H} {x : AV} {t u : AV} {G : Nat → Prop} (hu : M.atom u = true) (ho : Ow h [x] [.tup [t, u]] G) : ∃ y, x = .tup [y, u] ∧ Ow h [y] [t] G := by
  obtain ⟨cs, rfl, h1⟩ := Ow.openTup ho
  have hl : cs.length = 2 := h1.len.symm
  match cs, hl, h1 with
  | [x1, x2], _, h1 =>
    obtain ⟨F, F', f1, h2, e1, e2⟩ := h1.uncons
    have a2 : x2 = u := h2.atomOf hu
    subst a2
    exact ⟨x1, rfl, f1.mono e1⟩
theorem ow_tup2_of {h : H} {y t u : AV} {G : Nat → Prop} (hu : M.atom u = true) (ho : Ow h [y] [t] G) : Ow h [.tup [y, u]] [.tup [t, u]] G :=
  (ho.cons (F' := fun _ => False) (.atom hu .nil) (fun _ h => h) (fun _ h => h.elim)).tupOf
/-- What the ends are of a right trie. -/
theorem ends_keys {t : Tr} {K L : List Str} (h : TrI t K) (hp : L.Perm (endsTo (nodesK K) (fun i => decide ((i : Int) < t.en.size) && atB t.en i) (nodesK K).length)) (hs : L.Pairwise fun x y => Op.bytesLess y x = false) : L = K := by
  have h1 := trV_sort h.ok0 (h.dec true) hp hs
  rw [trV_of h] at h1
  split at h1
  · injection h1 with h1
    exact h1.symm
  · cases h1
theorem eS_ow {h : H} {x : AV} {o : Option (List Str)} {G : Nat → Prop} (ho : Ow h [x] [eS o] G) : (o = none ∧ x = .nils) ∨ ∃ L b, o = some L ∧ x = .sl b 0 1 L.length L.length ∧ G b ∧ h.cells b = some (L.map .str) := by
  cases o with
  | none => exact .inl ⟨rfl, ho.atomOf rfl⟩
  | some L =>
    obtain ⟨b, h1, h2, h3⟩ := ow_strs ho
    exact .inr ⟨L, b, rfl, h1, h2, h3⟩

def pfB (s x : Str) : Bool := decide (s.length ≤ x.length) && decide (x.take s.length = s)

theorem c_spec_KeysWithPrefix (t : Tr) (s : Str) (hs : s.length ≤ 1000000000) : Fn Tryz.prog 29 [eTr t, .str s] (KyR t (pfB s)) := by
  refine Fn.froze_ fun h => ?_
  refine enter (by kernel_rfl) e29 (by kernel_rfl) rfl fun hok => ?_
  simp only [r29, initEnv_2]
  have hk := c_spec_trKeys t
  have hkk := fun K => @trV_ok t K
  have hno : trV t = none → ∀ hh : H, ∃ t', Vw hh h.length (.tup [.nils, .bool false]) t' ∧ KyR t (pfB s) t' := fun h5 hh => ⟨_, .free (free_tup (free_cons_ free_nils (free_cons_ free_bool free_nil_))), KyR.no h5⟩
  have hyes : ∀ (K : List Str) (o' : Option (List Str)), trV t = some K → lS o' = K.filter (pfB s) → KyR t (pfB s) (.tup [eS o', .bool true]) := fun K o' h5 h7 => ⟨o', true, rfl, .inl ⟨rfl, K, h5, h7⟩⟩
  obtain ⟨⟨ss, sw⟩, ⟨es, ew⟩, lab⟩ := t
  (try (simp (disch := first | omega | (simp <;> omega) | fail) only [push_cast, ↓reduceIte, Nat.reduceEqDiff, Nat.reduceAdd, Nat.reduceMul, Nat.reduceSub, Nat.reduceLT, Int.reduceToNat]))
  refine hk.use fun x hx => ?_
  obtain ⟨o, b, rfl, ⟨rfl, hx⟩ | ⟨rfl, hx⟩⟩ := hx
  · have hKo := hkk _ hx
    have ho : ∀ x ∈ lS o, x.length ≤ 1000 := fun x hx5 => by
      have := (okKey_len ((okKeys_all hKo.1).1 x hx5)).2
      omega
    have hyes := fun o' => hyes _ o' hx
    (try (simp (disch := first | omega | (simp <;> omega) | fail) only [push_cast, ↓reduceIte, Nat.reduceEqDiff, Nat.reduceAdd, Nat.reduceMul, Nat.reduceSub, Nat.reduceLT, Int.reduceToNat]))
    refine T_for (lS o).length (fun k e h' => ∃ v, Pins e [(1, .str s), (8, v), (18, eS o), (19, .int .i64 (lS o).length), (20, .int .i64 k)] ∧ GsI AV.str (h.length + 1) h' v (((lS o).take k).filter (pfB s))) ?_ ?_
    · refine ⟨.nils, ?_⟩
      (try (simp (disch := first | omega | (simp <;> omega) | fail) only [push_cast, ↓reduceIte, Nat.reduceEqDiff, Nat.reduceAdd, Nat.reduceMul, Nat.reduceSub, Nat.reduceLT, Int.reduceToNat]))
      all_goals (try exact GsI.nil (by simp))
    rintro k e h' hk ⟨v, hp, hs2⟩
    refine T_pins hp fun e => ?_
    (try (simp (disch := first | omega | (simp <;> omega) | fail) only [push_cast, ↓reduceIte, Nat.reduceEqDiff, Nat.reduceAdd, Nat.reduceMul, Nat.reduceSub, Nat.reduceLT, Int.reduceToNat]))
    first | refine goC_split (fun hc => ?_) (fun hc => ?_) | refine cnd_split (fun hc => ?_) (fun hc => ?_)
    · (try (simp only [decide_eq_true_eq, decide_eq_false_iff_not, Bool.not_eq_true', Bool.not_eq_false', Bool.and_eq_true, Bool.or_eq_true, Int.not_lt, Int.not_le] at hc)); (try (simp (disch := first | omega | (simp <;> omega) | fail) only [push_cast, ↓reduceIte, Nat.reduceEqDiff, Nat.reduceAdd, Nat.reduceMul, Nat.reduceSub, Nat.reduceLT, Int.reduceToNat]))
      have hk2 : k < (lS o).length := by omega
      obtain ⟨x, hxd⟩ : ∃ x, x = (lS o).getD k [] := ⟨_, rfl⟩
      have hxl : x.length ≤ 1000 := ho x (by rw [hxd]; simp [hk2])
      have htk : (lS o).take (k + 1) = (lS o).take k ++ [x] := by
        rw [List.take_add_one, hxd]
        simp [hk2]
      have hle : (((lS o).take k).filter (pfB s)).length ≤ k := Nat.le_trans (List.length_filter_le _ _) (by rw [List.length_take]; omega)
      have hpf : pfB s x = (decide (s.length ≤ x.length) && decide (x.take s.length = s)) := rfl
      (try (simp (disch := first | omega | (simp <;> omega) | fail) only [push_cast, ↓reduceIte, Nat.reduceEqDiff, Nat.reduceAdd, Nat.reduceMul, Nat.reduceSub, Nat.reduceLT, Int.reduceToNat, ← hxd]))
      refine (c_spec_trBegins x s (by omega) hs).call ?_
      rw [← hpf]
      cases hb : pfB s x
      · have e1 : ((lS o).take (k + 1)).filter (pfB s) = ((lS o).take k).filter (pfB s) := by
          rw [htk, List.filter_append]
          simp [hb]
        rw [← e1] at hs2
        (try (simp (disch := first | omega | (simp <;> omega) | fail) only [push_cast, ↓reduceIte, Nat.reduceEqDiff, Nat.reduceAdd, Nat.reduceMul, Nat.reduceSub, Nat.reduceLT, Int.reduceToNat]))
        all_goals (try exact ⟨_, rfl, hs2⟩)
        all_goals (try exact hs2)
      · have e1 : ((lS o).take (k + 1)).filter (pfB s) = ((lS o).take k).filter (pfB s) ++ [x] := by
          rw [htk, List.filter_append]
          simp [hb]
        (try (simp (disch := first | omega | (simp <;> omega) | fail) only [push_cast, ↓reduceIte, Nat.reduceEqDiff, Nat.reduceAdd, Nat.reduceMul, Nat.reduceSub, Nat.reduceLT, Int.reduceToNat]))
        refine hs2.app (by_ := 16) (fun c hc => by first | exact Or.inr (by omega) | exact ⟨Or.inr (by omega), by omega⟩) (by omega) (by decide) fun v' h'' q1 q2 q3 => ?_
        rw [← e1] at q1
        (try (simp (disch := first | omega | (simp <;> omega) | fail) only [push_cast, ↓reduceIte, Nat.reduceEqDiff, Nat.reduceAdd, Nat.reduceMul, Nat.reduceSub, Nat.reduceLT, Int.reduceToNat]))
        all_goals (try exact ⟨_, rfl, q1⟩)
        all_goals (try exact q1)
    · (try (simp only [decide_eq_true_eq, decide_eq_false_iff_not, Bool.not_eq_true', Bool.not_eq_false', Bool.and_eq_true, Bool.or_eq_true, Int.not_lt, Int.not_le] at hc)); (try (simp (disch := first | omega | (simp <;> omega) | fail) only [push_cast, ↓reduceIte, Nat.reduceEqDiff, Nat.reduceAdd, Nat.reduceMul, Nat.reduceSub, Nat.reduceLT, Int.reduceToNat]))
      have hke : k = (lS o).length := by omega
      subst hke
      rw [List.take_length] at hs2
      obtain ⟨o', w, l4⟩ := hs2.vwS (n := h.length) (by omega)
      have hfin : ∃ t', Vw h' h.length (.tup [v, .bool true]) t' ∧ KyR ⟨⟨ss, sw⟩, ⟨es, ew⟩, lab⟩ (pfB s) t' := ⟨_, vw_tupT w (.free free_bool), hyes o' l4⟩
      (try (simp (disch := first | omega | (simp <;> omega) | fail) only [push_cast, ↓reduceIte, Nat.reduceEqDiff, Nat.reduceAdd, Nat.reduceMul, Nat.reduceSub, Nat.reduceLT, Int.reduceToNat]))
      all_goals (try exact hfin)
  · have hn := hno hx
    (try (simp (disch := first | omega | (simp <;> omega) | fail) only [push_cast, ↓reduceIte, Nat.reduceEqDiff, Nat.reduceAdd, Nat.reduceMul, Nat.reduceSub, Nat.reduceLT, Int.reduceToNat]))
    all_goals (try exact hn _)

theorem c_impl_Trie_keys_o (t : Tr) : FnO Tryz.prog 67 [.rad (cTr t) 0] (KyR t fun _ => true) := by
  intro h
  refine enter (by kernel_rfl) e67 (by kernel_rfl) rfl fun hok => ?_
  simp only [r67, initEnv_1]
  have hn := c_impl_Trie_nodes_o t
  have hE := c_impl_Trie_ends_o t
  have hkk := fun K => @trV_ok t K
  have hI := fun K => @trV_some t K
  have hky := fun o b => @KyR_all t o b
  have hnv : noV t = match trV t with | some K => eS (some (nodesK K)) | none => .nils := rfl
  have hfc := @free_cTr t
  rw [hnv] at hn
  clear hnv
  cases hv : trV t with
  | none =>
    rw [hv] at hn
    simp only at hn
    have hno : ∀ hh : H, ∃ t', Ow hh [.tup [.nils, .bool false]] [t'] (fun c => h.length ≤ c) ∧ KyR t (fun _ => true) t' := fun hh => ⟨_, ow_tup2_of rfl (.atom rfl .nil), hky none false (.inr ⟨rfl, hv, rfl⟩)⟩
    obtain ⟨⟨ss, sw⟩, ⟨es, ew⟩, lab⟩ := t
    (try (simp (disch := first | omega | (simp <;> omega) | fail) only [push_cast, ↓reduceIte, Nat.reduceEqDiff, Nat.reduceAdd, Nat.reduceMul, Nat.reduceSub, Nat.reduceLT, Int.reduceToNat]))
    refine hn.go fun x t' g hR hx how => ?_
    subst hR
    have hxn : x = .nils := how.atomOf rfl
    subst hxn
    (try (simp (disch := first | omega | (simp <;> omega) | fail) only [push_cast, ↓reduceIte, Nat.reduceEqDiff, Nat.reduceAdd, Nat.reduceMul, Nat.reduceSub, Nat.reduceLT, Int.reduceToNat]))
    all_goals (try exact hno _)
    done
  | some K =>
    rw [hv] at hn
    simp only at hn
    have hIK := hI K hv
    have hN1 := nodesK_cap (hkk K hv).2
    have hE2 := hE (some (nodesK K)) hIK.words (by show (nodesK K).length ≤ 5000; omega)
    have hek := fun L => @ends_keys t K L hIK
    have hyes : ∀ (hh : H) (x : AV), Ow hh [x] [eS (some K)] (fun c => h.length ≤ c) → ∃ t', Ow hh [.tup [x, .bool true]] [t'] (fun c => h.length ≤ c) ∧ KyR t (fun _ => true) t' := fun hh x hx => ⟨_, ow_tup2_of rfl hx, hky (some K) true (.inl ⟨rfl, hv⟩)⟩
    obtain ⟨⟨ss, sw⟩, ⟨es, ew⟩, lab⟩ := t
    (try (simp (disch := first | omega | (simp <;> omega) | fail) only [push_cast, ↓reduceIte, Nat.reduceEqDiff, Nat.reduceAdd, Nat.reduceMul, Nat.reduceSub, Nat.reduceLT, Int.reduceToNat]))
    refine hn.go fun x t' g hR hx how => ?_
    subst hR
    obtain ⟨b, rfl, hb0, hcb⟩ := ow_strs how
    (try (simp (disch := first | omega | (simp <;> omega) | fail) only [push_cast, ↓reduceIte, Nat.reduceEqDiff, Nat.reduceAdd, Nat.reduceMul, Nat.reduceSub, Nat.reduceLT, Int.reduceToNat]))
    refine hE2.goL (.free (free_radT hfc) (.cons (vw_all (Nat.zero_le _) hcb (by simp) (one_map fun _ => rfl) (free_map_ fun _ => free_str)) .nil)) fun x t' g2 hR hx2 how2 => ?_
    obtain ⟨L, rfl, p1, p2⟩ := hR
    have hLK : L = K := hek L p1 p2
    subst hLK
    have hl1 := hx.len
    have hf := hyes g2 x (how2.mono fun c hc => by have := hc.1; omega)
    (try (simp (disch := first | omega | (simp <;> omega) | fail) only [push_cast, ↓reduceIte, Nat.reduceEqDiff, Nat.reduceAdd, Nat.reduceMul, Nat.reduceSub, Nat.reduceLT, Int.reduceToNat]))
    all_goals (try exact hf)
    done

theorem c_impl_beginning_o (o : Option (List Str)) (s : Str) (ho : ∀ x ∈ lS o, x.length ≤ 1000) (hl : (lS o).length ≤ 1000) (hs : s.length ≤ 1000000000) : FnO Tryz.prog 72 [eS o, .str s] (fun v => ∃ L, v = eS (some L) ∧ L = (lS o).filter (pfB s)) := by
  intro h
  refine enter (by kernel_rfl) e72 (by kernel_rfl) rfl fun hok => ?_
  simp only [r72, initEnv_2]
  (try (simp (disch := first | omega | (simp <;> omega) | fail) only [push_cast, ↓reduceIte, Nat.reduceEqDiff, Nat.reduceAdd, Nat.reduceMul, Nat.reduceSub, Nat.reduceLT, Int.reduceToNat]))
  refine T_for (lS o).length (fun k e h' => ∃ v, Pins e [(1, .str s), (5, v), (9, eS o), (10, .int .i64 (lS o).length), (11, .int .i64 k)] ∧ (GsI AV.str h.length h' v (((lS o).take k).filter (pfB s)) ∧ v ≠ .nils)) ?_ ?_
  · refine ⟨.sl h.length 0 1 0 0, ?_⟩
    have hg0 : GsI AV.str h.length (h ++ [some (.cells [])]) (.sl h.length 0 1 0 0) [] := ⟨by simp, [h.length], ⟨rfl, .inr ⟨_, rfl, rfl, by rw [cells_h0]; rfl⟩⟩, by simp⟩
    (try (simp (disch := first | omega | (simp <;> omega) | fail) only [push_cast, ↓reduceIte, Nat.reduceEqDiff, Nat.reduceAdd, Nat.reduceMul, Nat.reduceSub, Nat.reduceLT, Int.reduceToNat]))
    all_goals (try exact ⟨hg0, by simp⟩)
    all_goals (try exact hg0)
  rintro k e h' hk ⟨v, hp, hs2, hv⟩
  refine T_pins hp fun e => ?_
  (try (simp (disch := first | omega | (simp <;> omega) | fail) only [push_cast, ↓reduceIte, Nat.reduceEqDiff, Nat.reduceAdd, Nat.reduceMul, Nat.reduceSub, Nat.reduceLT, Int.reduceToNat]))
  first | refine goC_split (fun hc => ?_) (fun hc => ?_) | refine cnd_split (fun hc => ?_) (fun hc => ?_)
  · (try (simp only [decide_eq_true_eq, decide_eq_false_iff_not, Bool.not_eq_true', Bool.not_eq_false', Bool.and_eq_true, Bool.or_eq_true, Int.not_lt, Int.not_le] at hc)); (try (simp (disch := first | omega | (simp <;> omega) | fail) only [push_cast, ↓reduceIte, Nat.reduceEqDiff, Nat.reduceAdd, Nat.reduceMul, Nat.reduceSub, Nat.reduceLT, Int.reduceToNat]))
    have hk2 : k < (lS o).length := by omega
    obtain ⟨x, hxd⟩ : ∃ x, x = (lS o).getD k [] := ⟨_, rfl⟩
    have hxl : x.length ≤ 1000 := ho x (by rw [hxd]; simp [hk2])
    have htk : (lS o).take (k + 1) = (lS o).take k ++ [x] := by
      rw [List.take_add_one, hxd]
      simp [hk2]
    have hle : (((lS o).take k).filter (pfB s)).length ≤ k := Nat.le_trans (List.length_filter_le _ _) (by rw [List.length_take]; omega)
    have hpf : pfB s x = (decide (s.length ≤ x.length) && decide (x.take s.length = s)) := rfl
    (try (simp (disch := first | omega | (simp <;> omega) | fail) only [push_cast, ↓reduceIte, Nat.reduceEqDiff, Nat.reduceAdd, Nat.reduceMul, Nat.reduceSub, Nat.reduceLT, Int.reduceToNat, ← hxd]))
    refine (c_strings_HasPrefix x s (by omega) hs).call ?_
    rw [← hpf]
    cases hb : pfB s x
    · have e1 : ((lS o).take (k + 1)).filter (pfB s) = ((lS o).take k).filter (pfB s) := by
        rw [htk, List.filter_append]
        simp [hb]
      rw [← e1] at hs2
      (try (simp (disch := first | omega | (simp <;> omega) | fail) only [push_cast, ↓reduceIte, Nat.reduceEqDiff, Nat.reduceAdd, Nat.reduceMul, Nat.reduceSub, Nat.reduceLT, Int.reduceToNat]))
      all_goals (try exact ⟨_, rfl, hs2, hv⟩)
      all_goals (try exact ⟨hs2, hv⟩)
    · have e1 : ((lS o).take (k + 1)).filter (pfB s) = ((lS o).take k).filter (pfB s) ++ [x] := by
        rw [htk, List.filter_append]
        simp [hb]
      (try (simp (disch := first | omega | (simp <;> omega) | fail) only [push_cast, ↓reduceIte, Nat.reduceEqDiff, Nat.reduceAdd, Nat.reduceMul, Nat.reduceSub, Nat.reduceLT, Int.reduceToNat]))
      refine hs2.app (by_ := 16) (fun c hc => by first | exact Or.inr (by omega) | exact ⟨Or.inr (by omega), by omega⟩) (by omega) (by decide) fun v' h'' q1 q2 q3 => ?_
      have hv2 : v' ≠ .nils := by
        obtain ⟨b, hb2, _⟩ := q1.at_ (by simp)
        rw [hb2]
        simp
      rw [← e1] at q1
      (try (simp (disch := first | omega | (simp <;> omega) | fail) only [push_cast, ↓reduceIte, Nat.reduceEqDiff, Nat.reduceAdd, Nat.reduceMul, Nat.reduceSub, Nat.reduceLT, Int.reduceToNat]))
      all_goals (try exact ⟨_, rfl, q1, hv2⟩)
      all_goals (try exact ⟨q1, hv2⟩)
  · (try (simp only [decide_eq_true_eq, decide_eq_false_iff_not, Bool.not_eq_true', Bool.not_eq_false', Bool.and_eq_true, Bool.or_eq_true, Int.not_lt, Int.not_le] at hc)); (try (simp (disch := first | omega | (simp <;> omega) | fail) only [push_cast, ↓reduceIte, Nat.reduceEqDiff, Nat.reduceAdd, Nat.reduceMul, Nat.reduceSub, Nat.reduceLT, Int.reduceToNat]))
    have hke : k = (lS o).length := by omega
    subst hke
    rw [List.take_length] at hs2
    obtain ⟨hn0, B, hS, hB⟩ := hs2
    rcases hS.2 with ⟨h5, _, _⟩ | ⟨b, hvb, hBb, hcb⟩
    · exact absurd h5 hv
    subst hvb
    have hb0 : h.length ≤ b := hB b (by rw [hBb]; simp)
    have hfin : ∃ t, Ow h' [.sl b 0 1 ((lS o).filter (pfB s)).length ((lS o).filter (pfB s)).length] [t] (fun c => h.length ≤ c) ∧ ∃ L, t = eS (some L) ∧ L = (lS o).filter (pfB s) := ⟨_, ow_strs_of hcb hb0, _, rfl, rfl⟩
    (try (simp (disch := first | omega | (simp <;> omega) | fail) only [push_cast, ↓reduceIte, Nat.reduceEqDiff, Nat.reduceAdd, Nat.reduceMul, Nat.reduceSub, Nat.reduceLT, Int.reduceToNat]))
    all_goals (try exact hfin)

theorem c_impl_KeysWithPrefix_o (t : Tr) (s : Str) (hs : s.length ≤ 1000000000) : FnO Tryz.prog 30 [eTr t, .str s] (KyR t (pfB s)) := by
  intro h
  refine enter (by kernel_rfl) e30 (by kernel_rfl) rfl fun hok => ?_
  simp only [r30, initEnv_2]
  have hk := c_impl_Trie_keys_o t
  have hkk := fun K => @trV_ok t K
  have hfc := @free_cTr t
  have hcb0 : H.cells (h ++ [some (.cells (cTr t))]) h.length = some (cTr t) := by rw [cells_h0]; rfl
  have hg : ∀ v, KyR t (fun _ => true) v → ∃ o b, v = .tup [eS o, .bool b] ∧ ((b = true ∧ trV t = some (lS o)) ∨ (b = false ∧ trV t = none ∧ lS o = [])) := fun v => KyR_get
  have hno : trV t = none → ∀ hh : H, ∃ t', Ow hh [.tup [.nils, .bool false]] [t'] (fun c => h.length ≤ c) ∧ KyR t (pfB s) t' := fun h5 hh => ⟨_, ow_tup2_of rfl (.atom rfl .nil), KyR.no h5⟩
  have hyes : ∀ K, trV t = some K → ∀ (hh : H) (y : AV), Ow hh [y] [eS (some (K.filter (pfB s)))] (fun c => h.length ≤ c) → ∃ t', Ow hh [.tup [y, .bool true]] [t'] (fun c => h.length ≤ c) ∧ KyR t (pfB s) t' := fun K h5 hh y hy => ⟨_, ow_tup2_of rfl hy, some (K.filter (pfB s)), true, rfl, .inl ⟨rfl, K, h5, rfl⟩⟩
  obtain ⟨⟨ss, sw⟩, ⟨es, ew⟩, lab⟩ := t
  (try (simp (disch := first | omega | (simp <;> omega) | fail) only [push_cast, ↓reduceIte, Nat.reduceEqDiff, Nat.reduceAdd, Nat.reduceMul, Nat.reduceSub, Nat.reduceLT, Int.reduceToNat]))
  refine hk.goL (.adr hcb0 hfc .nil) fun x t' g hR hx how => ?_
  obtain ⟨o, b, rfl, hob⟩ := hg _ hR
  obtain ⟨y, rfl, hy⟩ := ow_tup2 rfl how
  rcases hob with ⟨rfl, h2⟩ | ⟨rfl, h2, _⟩
  · have hKo := hkk _ h2
    have hB := c_impl_beginning_o o s (fun x hx5 => by have := (okKey_len ((okKeys_all hKo.1).1 x hx5)).2; omega) (by omega) hs
    (try (simp (disch := first | omega | (simp <;> omega) | fail) only [push_cast, ↓reduceIte, Nat.reduceEqDiff, Nat.reduceAdd, Nat.reduceMul, Nat.reduceSub, Nat.reduceLT, Int.reduceToNat]))
    refine hB.goL (.cons hy.vw0 (.free free_str .nil)) fun z t2 g2 hR2 hx2 how2 => ?_
    obtain ⟨L, rfl, rfl⟩ := hR2
    have hl := hx.len
    simp only [List.length_append, List.length_cons, List.length_nil] at hl
    have hf := hyes _ h2 g2 z (how2.mono fun c hc => by have := hc.1; omega)
    (try (simp (disch := first | omega | (simp <;> omega) | fail) only [push_cast, ↓reduceIte, Nat.reduceEqDiff, Nat.reduceAdd, Nat.reduceMul, Nat.reduceSub, Nat.reduceLT, Int.reduceToNat]))
    all_goals (try exact hf)
  · have hf := hno h2
    (try (simp (disch := first | omega | (simp <;> omega) | fail) only [push_cast, ↓reduceIte, Nat.reduceEqDiff, Nat.reduceAdd, Nat.reduceMul, Nat.reduceSub, Nat.reduceLT, Int.reduceToNat]))
    all_goals (try exact hf _)

theorem c_laws_eqStringS (a b : Option (List Str)) : Fn Tryz.prog 25 [eS a, eS b] (· = .bool (decide (lS a = lS b))) := by
  refine Fn.of free_bool fun h => ?_
  refine enter (by kernel_rfl) e25 (by kernel_rfl) rfl fun hok => ?_
  simp only [r25, initEnv_2]
  have ha := ok_eS (okV_0 hok)
  have hb := ok_eS (okV_1 hok)
  (try (simp (disch := first | omega | (simp <;> omega) | fail) only [push_cast, ↓reduceIte, Nat.reduceEqDiff, Nat.reduceAdd, Nat.reduceMul, Nat.reduceSub, Nat.reduceLT, Int.reduceToNat]))
  first | refine goC_split (fun hc => ?_) (fun hc => ?_) | refine cnd_split (fun hc => ?_) (fun hc => ?_)
  · (try (simp only [decide_eq_true_eq, decide_eq_false_iff_not, Bool.not_eq_true', Bool.not_eq_false', Bool.and_eq_true, Bool.or_eq_true, Int.not_lt, Int.not_le] at hc)); (try (simp (disch := first | omega | (simp <;> omega) | fail) only [push_cast, ↓reduceIte, Nat.reduceEqDiff, Nat.reduceAdd, Nat.reduceMul, Nat.reduceSub, Nat.reduceLT, Int.reduceToNat]))
    congr 1
    symm
    rw [decide_eq_false_iff_not]
    intro he
    rw [he] at hc
    exact hc rfl
  have hlen : (lS a).length = (lS b).length := by (try (simp only [decide_eq_true_eq, decide_eq_false_iff_not, Bool.not_eq_true', Bool.not_eq_false', Bool.and_eq_true, Bool.or_eq_true, Int.not_lt, Int.not_le] at hc)); (try (simp (disch := first | omega | (simp <;> omega) | fail) only [push_cast, ↓reduceIte, Nat.reduceEqDiff, Nat.reduceAdd, Nat.reduceMul, Nat.reduceSub, Nat.reduceLT, Int.reduceToNat])); omega
  (try (simp (disch := first | omega | (simp <;> omega) | fail) only [push_cast, ↓reduceIte, Nat.reduceEqDiff, Nat.reduceAdd, Nat.reduceMul, Nat.reduceSub, Nat.reduceLT, Int.reduceToNat]))
  refine T_for (lS a).length (fun i e h' => Pins e [(0, eS a), (1, eS b), (5, .int .i64 i)] ∧ h' = h ∧ (lS a).take i = (lS b).take i) ?_ ?_
  · (try (simp (disch := first | omega | (simp <;> omega) | fail) only [push_cast, ↓reduceIte, Nat.reduceEqDiff, Nat.reduceAdd, Nat.reduceMul, Nat.reduceSub, Nat.reduceLT, Int.reduceToNat]))
    simp
  rintro i e h' hi ⟨hp, rfl, he⟩
  refine T_pins hp fun e => ?_
  (try (simp (disch := first | omega | (simp <;> omega) | fail) only [push_cast, ↓reduceIte, Nat.reduceEqDiff, Nat.reduceAdd, Nat.reduceMul, Nat.reduceSub, Nat.reduceLT, Int.reduceToNat]))
  first | refine goC_split (fun hc => ?_) (fun hc => ?_) | refine cnd_split (fun hc => ?_) (fun hc => ?_)
  · (try (simp only [decide_eq_true_eq, decide_eq_false_iff_not, Bool.not_eq_true', Bool.not_eq_false', Bool.and_eq_true, Bool.or_eq_true, Int.not_lt, Int.not_le] at hc)); (try (simp (disch := first | omega | (simp <;> omega) | fail) only [push_cast, ↓reduceIte, Nat.reduceEqDiff, Nat.reduceAdd, Nat.reduceMul, Nat.reduceSub, Nat.reduceLT, Int.reduceToNat]))
    have hi : i < (lS a).length := by omega
    (try (simp (disch := first | omega | (simp <;> omega) | fail) only [push_cast, ↓reduceIte, Nat.reduceEqDiff, Nat.reduceAdd, Nat.reduceMul, Nat.reduceSub, Nat.reduceLT, Int.reduceToNat]))
    first | refine goC_split (fun hc => ?_) (fun hc => ?_) | refine cnd_split (fun hc => ?_) (fun hc => ?_)
    · (try (simp only [decide_eq_true_eq, decide_eq_false_iff_not, Bool.not_eq_true', Bool.not_eq_false', Bool.and_eq_true, Bool.or_eq_true, Int.not_lt, Int.not_le] at hc)); (try (simp (disch := first | omega | (simp <;> omega) | fail) only [push_cast, ↓reduceIte, Nat.reduceEqDiff, Nat.reduceAdd, Nat.reduceMul, Nat.reduceSub, Nat.reduceLT, Int.reduceToNat]))
      congr 1
      symm
      rw [decide_eq_false_iff_not]
      intro he
      rw [he] at hc
      exact hc rfl
    · (try (simp only [decide_eq_true_eq, decide_eq_false_iff_not, Bool.not_eq_true', Bool.not_eq_false', Bool.and_eq_true, Bool.or_eq_true, Int.not_lt, Int.not_le] at hc)); (try (simp (disch := first | omega | (simp <;> omega) | fail) only [push_cast, ↓reduceIte, Nat.reduceEqDiff, Nat.reduceAdd, Nat.reduceMul, Nat.reduceSub, Nat.reduceLT, Int.reduceToNat]))
      have h1 : i < (lS b).length := by omega
      simp [hi, h1] at hc
      rw [List.take_add_one, List.take_add_one, he]
      simp [hi, h1, hc]
  · (try (simp only [decide_eq_true_eq, decide_eq_false_iff_not, Bool.not_eq_true', Bool.not_eq_false', Bool.and_eq_true, Bool.or_eq_true, Int.not_lt, Int.not_le] at hc)); (try (simp (disch := first | omega | (simp <;> omega) | fail) only [push_cast, ↓reduceIte, Nat.reduceEqDiff, Nat.reduceAdd, Nat.reduceMul, Nat.reduceSub, Nat.reduceLT, Int.reduceToNat]))
    have hi2 : i = (lS a).length := by omega
    congr 1
    symm
    rw [decide_eq_true_iff]
    rw [hi2, List.take_length] at he
    rw [he, hlen, List.take_length]

theorem c_laws_eqIntS (a b : Option (List Int)) : Fn Tryz.prog 91 [eI a, eI b] (· = .bool (decide (lI a = lI b))) := by
  refine Fn.of free_bool fun h => ?_
  refine enter (by kernel_rfl) e91 (by kernel_rfl) rfl fun hok => ?_
  simp only [r91, initEnv_2]
  have ha := ok_eI (okV_0 hok)
  have hb := ok_eI (okV_1 hok)
  (try (simp (disch := first | omega | (simp <;> omega) | fail) only [push_cast, ↓reduceIte, Nat.reduceEqDiff, Nat.reduceAdd, Nat.reduceMul, Nat.reduceSub, Nat.reduceLT, Int.reduceToNat]))
  first | refine goC_split (fun hc => ?_) (fun hc => ?_) | refine cnd_split (fun hc => ?_) (fun hc => ?_)
  · (try (simp only [decide_eq_true_eq, decide_eq_false_iff_not, Bool.not_eq_true', Bool.not_eq_false', Bool.and_eq_true, Bool.or_eq_true, Int.not_lt, Int.not_le] at hc)); (try (simp (disch := first | omega | (simp <;> omega) | fail) only [push_cast, ↓reduceIte, Nat.reduceEqDiff, Nat.reduceAdd, Nat.reduceMul, Nat.reduceSub, Nat.reduceLT, Int.reduceToNat]))
    congr 1
    symm
    rw [decide_eq_false_iff_not]
    intro he
    rw [he] at hc
    exact hc rfl
  have hlen : (lI a).length = (lI b).length := by (try (simp only [decide_eq_true_eq, decide_eq_false_iff_not, Bool.not_eq_true', Bool.not_eq_false', Bool.and_eq_true, Bool.or_eq_true, Int.not_lt, Int.not_le] at hc)); (try (simp (disch := first | omega | (simp <;> omega) | fail) only [push_cast, ↓reduceIte, Nat.reduceEqDiff, Nat.reduceAdd, Nat.reduceMul, Nat.reduceSub, Nat.reduceLT, Int.reduceToNat])); omega
  (try (simp (disch := first | omega | (simp <;> omega) | fail) only [push_cast, ↓reduceIte, Nat.reduceEqDiff, Nat.reduceAdd, Nat.reduceMul, Nat.reduceSub, Nat.reduceLT, Int.reduceToNat]))
  refine T_for (lI a).length (fun i e h' => Pins e [(0, eI a), (1, eI b), (5, .int .i64 i)] ∧ h' = h ∧ (lI a).take i = (lI b).take i) ?_ ?_
  · (try (simp (disch := first | omega | (simp <;> omega) | fail) only [push_cast, ↓reduceIte, Nat.reduceEqDiff, Nat.reduceAdd, Nat.reduceMul, Nat.reduceSub, Nat.reduceLT, Int.reduceToNat]))
    simp
  rintro i e h' hi ⟨hp, rfl, he⟩
  refine T_pins hp fun e => ?_
  (try (simp (disch := first | omega | (simp <;> omega) | fail) only [push_cast, ↓reduceIte, Nat.reduceEqDiff, Nat.reduceAdd, Nat.reduceMul, Nat.reduceSub, Nat.reduceLT, Int.reduceToNat]))
  first | refine goC_split (fun hc => ?_) (fun hc => ?_) | refine cnd_split (fun hc => ?_) (fun hc => ?_)
  · (try (simp only [decide_eq_true_eq, decide_eq_false_iff_not, Bool.not_eq_true', Bool.not_eq_false', Bool.and_eq_true, Bool.or_eq_true, Int.not_lt, Int.not_le] at hc)); (try (simp (disch := first | omega | (simp <;> omega) | fail) only [push_cast, ↓reduceIte, Nat.reduceEqDiff, Nat.reduceAdd, Nat.reduceMul, Nat.reduceSub, Nat.reduceLT, Int.reduceToNat]))
    have hi : i < (lI a).length := by omega
    (try (simp (disch := first | omega | (simp <;> omega) | fail) only [push_cast, ↓reduceIte, Nat.reduceEqDiff, Nat.reduceAdd, Nat.reduceMul, Nat.reduceSub, Nat.reduceLT, Int.reduceToNat]))
    first | refine goC_split (fun hc => ?_) (fun hc => ?_) | refine cnd_split (fun hc => ?_) (fun hc => ?_)
    · (try (simp only [decide_eq_true_eq, decide_eq_false_iff_not, Bool.not_eq_true', Bool.not_eq_false', Bool.and_eq_true, Bool.or_eq_true, Int.not_lt, Int.not_le] at hc)); (try (simp (disch := first | omega | (simp <;> omega) | fail) only [push_cast, ↓reduceIte, Nat.reduceEqDiff, Nat.reduceAdd, Nat.reduceMul, Nat.reduceSub, Nat.reduceLT, Int.reduceToNat]))
      congr 1
      symm
      rw [decide_eq_false_iff_not]
      intro he
      rw [he] at hc
      exact hc rfl
    · (try (simp only [decide_eq_true_eq, decide_eq_false_iff_not, Bool.not_eq_true', Bool.not_eq_false', Bool.and_eq_true, Bool.or_eq_true, Int.not_lt, Int.not_le] at hc)); (try (simp (disch := first | omega | (simp <;> omega) | fail) only [push_cast, ↓reduceIte, Nat.reduceEqDiff, Nat.reduceAdd, Nat.reduceMul, Nat.reduceSub, Nat.reduceLT, Int.reduceToNat]))
      have h1 : i < (lI b).length := by omega
      simp [hi, h1] at hc
      rw [List.take_add_one, List.take_add_one, he]
      simp [hi, h1, hc]
  · (try (simp only [decide_eq_true_eq, decide_eq_false_iff_not, Bool.not_eq_true', Bool.not_eq_false', Bool.and_eq_true, Bool.or_eq_true, Int.not_lt, Int.not_le] at hc)); (try (simp (disch := first | omega | (simp <;> omega) | fail) only [push_cast, ↓reduceIte, Nat.reduceEqDiff, Nat.reduceAdd, Nat.reduceMul, Nat.reduceSub, Nat.reduceLT, Int.reduceToNat]))
    have hi2 : i = (lI a).length := by omega
    congr 1
    symm
    rw [decide_eq_true_iff]
    rw [hi2, List.take_length] at he
    rw [he, hlen, List.take_length]

theorem c_laws_eqBits (b c : Bt) : Fn Tryz.prog 59 [eB b, eB c] (· = .bool (decide (b.size = c.size) && decide (lI b.words = lI c.words))) := by
  refine Fn.of free_bool fun h => ?_
  refine enter (by kernel_rfl) e59 (by kernel_rfl) rfl fun hok => ?_
  simp only [r59, initEnv_2]
  (try (simp (disch := first | omega | (simp <;> omega) | fail) only [push_cast, ↓reduceIte, Nat.reduceEqDiff, Nat.reduceAdd, Nat.reduceMul, Nat.reduceSub, Nat.reduceLT, Int.reduceToNat]))
  first | refine goC_split (fun hc => ?_) (fun hc => ?_) | refine cnd_split (fun hc => ?_) (fun hc => ?_)
  · (try (simp only [decide_eq_true_eq, decide_eq_false_iff_not, Bool.not_eq_true', Bool.not_eq_false', Bool.and_eq_true, Bool.or_eq_true, Int.not_lt, Int.not_le] at hc)); (try (simp (disch := first | omega | (simp <;> omega) | fail) only [push_cast, ↓reduceIte, Nat.reduceEqDiff, Nat.reduceAdd, Nat.reduceMul, Nat.reduceSub, Nat.reduceLT, Int.reduceToNat]))
  (try (simp only [decide_eq_true_eq, decide_eq_false_iff_not, Bool.not_eq_true', Bool.not_eq_false', Bool.and_eq_true, Bool.or_eq_true, Int.not_lt, Int.not_le] at hc)); (try (simp (disch := first | omega | (simp <;> omega) | fail) only [push_cast, ↓reduceIte, Nat.reduceEqDiff, Nat.reduceAdd, Nat.reduceMul, Nat.reduceSub, Nat.reduceLT, Int.reduceToNat]))
  refine (c_laws_eqIntS _ _).call ?_
  cases he : decide (lI b.words = lI c.words)
  · (try (simp (disch := first | omega | (simp <;> omega) | fail) only [push_cast, ↓reduceIte, Nat.reduceEqDiff, Nat.reduceAdd, Nat.reduceMul, Nat.reduceSub, Nat.reduceLT, Int.reduceToNat]))
    all_goals (try simp [hc])
  · (try (simp (disch := first | omega | (simp <;> omega) | fail) only [push_cast, ↓reduceIte, Nat.reduceEqDiff, Nat.reduceAdd, Nat.reduceMul, Nat.reduceSub, Nat.reduceLT, Int.reduceToNat]))
    all_goals (try simp [hc])

theorem c_laws_eqTrie (t : Tr) : Fn Tryz.prog 16 [eTr t, eTr t] (· = .bool true) := by
  refine Fn.of free_bool fun h => ?_
  refine enter (by kernel_rfl) e16 (by kernel_rfl) rfl fun hok => ?_
  simp only [r16, initEnv_2]
  have hb : ∀ b : Bt, Fn Tryz.prog 59 [eB b, eB b] (· = .bool true) := fun b => by
    have := c_laws_eqBits b b
    simpa using this
  (try (simp (disch := first | omega | (simp <;> omega) | fail) only [push_cast, ↓reduceIte, Nat.reduceEqDiff, Nat.reduceAdd, Nat.reduceMul, Nat.reduceSub, Nat.reduceLT, Int.reduceToNat]))
  refine (hb t.sh).call ?_
  (try (simp (disch := first | omega | (simp <;> omega) | fail) only [push_cast, ↓reduceIte, Nat.reduceEqDiff, Nat.reduceAdd, Nat.reduceMul, Nat.reduceSub, Nat.reduceLT, Int.reduceToNat]))
  refine (hb t.en).call ?_
  (try (simp (disch := first | omega | (simp <;> omega) | fail) only [push_cast, ↓reduceIte, Nat.reduceEqDiff, Nat.reduceAdd, Nat.reduceMul, Nat.reduceSub, Nat.reduceLT, Int.reduceToNat]))

def marksI (k : Int) (n : Nat) : List Int := (List.range n).map fun i : Nat => k + (i : Int)
theorem marksI_len {k : Int} {n : Nat} : (marksI k n).length = n := by simp [marksI]
theorem marksI_get {k : Int} {n i : Nat} (hi : i < n) : (marksI k n).getD i 0 = k + (i : Int) := by simp [marksI, hi]
theorem marksI_succ {k : Int} {n : Nat} : marksI k (n + 1) = marksI k n ++ [k + (n : Int)] := by simp [marksI, List.range_succ]
def mkI (k : Int) (a : Option (List Int)) : Option (List Int) := a.map fun l => marksI k l.length
theorem lI_mkI {k : Int} {a : Option (List Int)} : lI (mkI k a) = marksI k (lI a).length := by cases a <;> rfl
theorem setL_next {α : Type} {f : α → AV} {m l : List α} {x : α} {i : Nat} (hm : m.length = i) (hi : i < l.length) : ((m ++ l.drop i).map f).set i (f x) = (m ++ [x] ++ l.drop (i + 1)).map f := by
  subst hm
  rw [List.drop_eq_getElem_cons hi]
  simp only [List.map_append, List.map_cons, List.map_nil, List.append_assoc, List.cons_append, List.nil_append]
  have := set_last (p := m.map f) (r := (l.drop (m.length + 1)).map f) (x := f l[m.length]) (y := f x)
  rw [List.length_map] at this
  exact this

theorem c_laws_markIntS (v : AV) (a : Option (List Int)) (G : Nat → Prop) (k : Int) (h : H) (hs : Ow h [v] [eI a] G) (hk : 0 ≤ k) (hk2 : k + (lI a).length ≤ 100000000) :
    Call Tryz.prog 102 [v, .int .i64 k] h G (fun x h' => x = .int .i64 (k + (lI a).length) ∧ Kp G h h' ∧ Ow h' [v] [eI (mkI k a)] G) := by
  cases a with
  | none =>
    have hv : v = .nils := hs.atomOf rfl
    subst hv
    refine enter (by kernel_rfl) e102 (by kernel_rfl) rfl fun hok => ?_
    simp only [r102, initEnv_2]
    (try (simp (disch := first | omega | (simp <;> omega) | fail) only [push_cast, ↓reduceIte, Nat.reduceEqDiff, Nat.reduceAdd, Nat.reduceMul, Nat.reduceSub, Nat.reduceLT, Int.reduceToNat]))
    refine T_for 0 (fun i e h' => Pins e [(0, .nils), (1, .int .i64 k), (5, .int .i64 0)] ∧ h' = h) ?_ ?_
    · (try (simp (disch := first | omega | (simp <;> omega) | fail) only [push_cast, ↓reduceIte, Nat.reduceEqDiff, Nat.reduceAdd, Nat.reduceMul, Nat.reduceSub, Nat.reduceLT, Int.reduceToNat]))
    rintro i e h' hi ⟨hp, rfl⟩
    refine T_pins hp fun e => ?_
    (try (simp (disch := first | omega | (simp <;> omega) | fail) only [push_cast, ↓reduceIte, Nat.reduceEqDiff, Nat.reduceAdd, Nat.reduceMul, Nat.reduceSub, Nat.reduceLT, Int.reduceToNat]))
    all_goals (try exact ⟨by simp [lI], Kp.refl, hs⟩)
  | some l =>
    obtain ⟨b, cs, F, rfl, hc, hcl, hb, hF, hin, hre⟩ := Ow.open_ (show Ow h [v] [.ro 1 (l.map (.int .i64)) l.length] G from hs)
    have hl0 : lI (some l) = l := rfl
    rw [hl0] at hk2 ⊢
    refine enter (by kernel_rfl) e102 (by kernel_rfl) rfl fun hok => ?_
    simp only [r102, initEnv_2]
    (try (simp (disch := first | omega | (simp <;> omega) | fail) only [push_cast, ↓reduceIte, Nat.reduceEqDiff, Nat.reduceAdd, Nat.reduceMul, Nat.reduceSub, Nat.reduceLT, Int.reduceToNat]))
    refine T_for l.length (fun i e h' => Pins e [(0, .sl b 0 1 l.length l.length), (1, .int .i64 (k + i)), (5, .int .i64 i)] ∧ Kp G h h' ∧ h'.cells b = some ((marksI k i ++ l.drop i).map (.int .i64))) ?_ ?_
    · have hcs : cs = l.map (.int .i64) := by
        refine List.ext_getElem? fun i => ?_
        by_cases hi : i < cs.length
        · have hi2 : i < (l.map (AV.int .i64)).length := by rw [hin.len]; exact hi
          obtain ⟨F2, _, h2, _⟩ := hin.focus (List.getElem?_eq_getElem hi) (List.getElem?_eq_getElem hi2)
          rw [List.getElem?_eq_getElem hi, List.getElem?_eq_getElem hi2]
          exact congrArg some (h2.atomOf (by simp [atom]))
        · rw [List.getElem?_eq_none (by omega), List.getElem?_eq_none (by rw [hin.len]; omega)]
      (try (simp (disch := first | omega | (simp <;> omega) | fail) only [push_cast, ↓reduceIte, Nat.reduceEqDiff, Nat.reduceAdd, Nat.reduceMul, Nat.reduceSub, Nat.reduceLT, Int.reduceToNat]))
      all_goals (try exact ⟨Kp.refl, by rw [hc, hcs]; simp [marksI]⟩)
      all_goals (try exact ⟨by simp, Kp.refl, by rw [hc, hcs]; simp [marksI]⟩)
    rintro i e h' hi ⟨hp, hkp, hc2⟩
    refine T_pins hp fun e => ?_
    have hpm : G b = True := by simp [hb]
    (try (simp (disch := first | omega | (simp <;> omega) | fail) only [push_cast, ↓reduceIte, Nat.reduceEqDiff, Nat.reduceAdd, Nat.reduceMul, Nat.reduceSub, Nat.reduceLT, Int.reduceToNat]))
    first | refine goC_split (fun hc => ?_) (fun hc => ?_) | refine cnd_split (fun hc => ?_) (fun hc => ?_)
    · (try (simp only [decide_eq_true_eq, decide_eq_false_iff_not, Bool.not_eq_true', Bool.not_eq_false', Bool.and_eq_true, Bool.or_eq_true, Int.not_lt, Int.not_le] at hc)); (try (simp (disch := first | omega | (simp <;> omega) | fail) only [push_cast, ↓reduceIte, Nat.reduceEqDiff, Nat.reduceAdd, Nat.reduceMul, Nat.reduceSub, Nat.reduceLT, Int.reduceToNat]))
      have hi2 : i < l.length := by omega
      have hset := setL_next (f := AV.int .i64) (m := marksI k i) (x := k + (i : Int)) marksI_len hi2
      rw [← marksI_succ] at hset
      have hln : ((marksI k i ++ l.drop i).map (AV.int .i64)).length = l.length := by
        simp [marksI_len]
        omega
      have hos : over ((marksI k i ++ l.drop i).map (AV.int .i64)) i [.int .i64 (k + (i : Int))] = (marksI k (i + 1) ++ l.drop (i + 1)).map (.int .i64) := by
        rw [over_set (by omega), hset]
      (try (simp (disch := first | omega | (simp <;> omega) | fail) only [push_cast, ↓reduceIte, Nat.reduceEqDiff, Nat.reduceAdd, Nat.reduceMul, Nat.reduceSub, Nat.reduceLT, Int.reduceToNat, hc2, hpm, hln, hos]))
      all_goals (try (refine ⟨by omega, ?_⟩))
      all_goals (try exact ⟨hkp.wr hb _, cells_wr2 (cells_lt hc2)⟩)
    · (try (simp only [decide_eq_true_eq, decide_eq_false_iff_not, Bool.not_eq_true', Bool.not_eq_false', Bool.and_eq_true, Bool.or_eq_true, Int.not_lt, Int.not_le] at hc)); (try (simp (disch := first | omega | (simp <;> omega) | fail) only [push_cast, ↓reduceIte, Nat.reduceEqDiff, Nat.reduceAdd, Nat.reduceMul, Nat.reduceSub, Nat.reduceLT, Int.reduceToNat]))
      have hie : i = l.length := by omega
      subst hie
      rw [List.drop_length, List.append_nil] at hc2
      have hfin : Ow h' [.sl b 0 1 l.length l.length] [eI (mkI k (some l))] G := by
        have := ow_map (h := h') (f := AV.int .i64) (G := G) (fun _ => rfl) hc2 (marksI_len) hb
        unfold mkI eI
        simpa [marksI_len] using this
      first | exact ⟨rfl, hkp, hfin⟩ | exact ⟨hkp, hfin⟩

def mkBt (k : Int) (b : Bt) : Bt := ⟨b.size, mkI k b.words⟩
theorem c_laws_markBits (v : AV) (b : Bt) (G : Nat → Prop) (k : Int) (h : H) (hs : Ow h [v] [eB b] G) (hG : ∀ c, G c → c < h.length) (hk : 0 ≤ k) (hk2 : k + (lI b.words).length ≤ 100000000) :
    Call Tryz.prog 69 [v, .int .i64 k] h G (fun x h' => x = .int .i64 (k + (lI b.words).length) ∧ Kq G h h' ∧ Ow h' [v] [eB (mkBt k b)] G) := by
  obtain ⟨w, F, rfl, f1, f2, f3, f4, f5⟩ := ow_bt hs
  refine enter (by kernel_rfl) e69 (by kernel_rfl) rfl fun hok => ?_
  simp only [r69, initEnv_2]
  (try (simp (disch := first | omega | (simp <;> omega) | fail) only [push_cast, ↓reduceIte, Nat.reduceEqDiff, Nat.reduceAdd, Nat.reduceMul, Nat.reduceSub, Nat.reduceLT, Int.reduceToNat, f3, f4]))
  refine (c_laws_markIntS w b.words F k _ (f1.frame fun c hc => List.getElem?_append_left (hG c (f2 c hc))) hk hk2).mono (fun x h2 hx => ?_) (fun c hc hF => Or.inl (f2 c hF))
  obtain ⟨rfl, hkp, ho⟩ := hx
  have h1 := hkp.1
  have hkq : Kq G h h2 := ⟨by simp at h1; omega, fun c hc hn => (hkp.2 c fun hf => hn (f2 c hf)).trans (List.getElem?_append_left hc)⟩
  (try (simp (disch := first | omega | (simp <;> omega) | fail) only [push_cast, ↓reduceIte, Nat.reduceEqDiff, Nat.reduceAdd, Nat.reduceMul, Nat.reduceSub, Nat.reduceLT, Int.reduceToNat]))
  exact ⟨hkq, f5 h2 _ ho⟩

def mkTr (k : Int) (t : Tr) : Tr := ⟨mkBt k t.sh, mkBt (k + (lI t.sh.words).length) t.en, t.lab⟩
theorem ow_inT {h : H} {n : Int} {x : AV} {b : Bt} {F : Nat → Prop} (ho : Ow h [.agg [.int .i64 n, x]] [eB b] F) : Ow h [x] [eI b.words] F := by
  obtain ⟨cs, he, h1⟩ := Ow.openAgg (show Ow h [.agg [.int .i64 n, x]] [.agg (cB b)] F from ho)
  injection he with he
  subst he
  obtain ⟨_, F2, _, f2, _, f3⟩ := h1.uncons
  exact f2.mono fun c hc => (f3 c hc).1
theorem c_laws_markTrie (v : AV) (s : Tr) (G : Nat → Prop) (k : Int) (h : H) (hs : Ow h [v] [eTr s] G) (hG : ∀ c, G c → c < h.length) (hk : 0 ≤ k) (hk2 : k + (lI s.sh.words).length + (lI s.en.words).length ≤ 100000000) :
    Call Tryz.prog 26 [v, .int .i64 k] h G (fun x h' => x = .int .i64 (k + (lI s.sh.words).length + (lI s.en.words).length) ∧ Kq G h h' ∧ Ow h' [v] [eTr (mkTr k s)] G) := by
  obtain ⟨x5, x7, F5, F7, rfl, p5, p7, u5, u7, hre⟩ := ow_trE hs
  obtain ⟨c1, c2⟩ := ow_eI p5
  obtain ⟨c3, c4⟩ := ow_eI p7
  refine enter (by kernel_rfl) e26 (by kernel_rfl) rfl fun hok => ?_
  simp only [r26, initEnv_2]
  have g5 : ∀ l : H, Ow (h ++ l) [.agg [.int .i64 s.sh.size, x5]] [eB s.sh] F5 := fun l => Ow.aggOf (ts := cB s.sh) (.atom rfl (p5.frame fun c hc => List.getElem?_append_left (hG c (u5 c hc))))
  (try (simp (disch := first | omega | (simp <;> omega) | fail) only [push_cast, ↓reduceIte, Nat.reduceEqDiff, Nat.reduceAdd, Nat.reduceMul, Nat.reduceSub, Nat.reduceLT, Int.reduceToNat, c1, c2, c3, c4]))
  refine (c_laws_markBits _ s.sh F5 k _ (g5 _) (fun c hc => by have := hG c (u5 c hc); simp; omega) hk (by omega)).mono (fun x h2 hx => ?_) (fun c hc hF => Or.inl (u5 c hF))
  obtain ⟨rfl, hk1, ho5⟩ := hx
  have hl2 := hk1.1
  simp only [List.length_append, List.length_cons, List.length_nil] at hl2
  have hb2 : H.cells h2 h.length = some [.int .i64 s.sh.size, x5, .int .i64 s.en.size, x7, .str s.lab] := cells_keep (hk1.2 _ (by simp) fun hc => by have := hG _ (u5 _ hc); omega) (by rw [cells_h0]; rfl)
  have p72 : Ow h2 [x7] [eI s.en.words] F7 := p7.frame fun c hc => (hk1.2 c (by have := hG c (u7 c hc).1; simp; omega) (u7 c hc).2).trans (List.getElem?_append_left (hG c (u7 c hc).1))
  have g7 : Ow h2 [.agg [.int .i64 s.en.size, x7]] [eB s.en] F7 := Ow.aggOf (ts := cB s.en) (.atom rfl p72)
  (try (simp (disch := first | omega | (simp <;> omega) | fail) only [push_cast, ↓reduceIte, Nat.reduceEqDiff, Nat.reduceAdd, Nat.reduceMul, Nat.reduceSub, Nat.reduceLT, Int.reduceToNat, hb2, c1, c2, c3, c4]))
  refine (c_laws_markBits _ s.en F7 (k + (lI s.sh.words).length) _ g7 (fun c hc => by have := hG c (u7 c hc).1; omega) (by omega) (by omega)).mono (fun x h3 hx => ?_) (fun c hc hF => Or.inl (u7 c hF).1)
  obtain ⟨rfl, hk3, ho7⟩ := hx
  have hl3 := hk3.1
  have p53 : Ow h3 [x5] [eI (mkBt k s.sh).words] F5 := (ow_inT ho5).frame fun c hc => hk3.2 c (by have := hG c (u5 c hc); omega) fun h5 => (u7 c h5).2 hc
  have hfin := hre h3 _ _ p53 (ow_inT ho7)
  have hkq : Kq G h h3 := ⟨by omega, fun c hc hn => (hk3.2 c (by omega) fun h5 => hn (u7 c h5).1).trans ((hk1.2 c (by simp; omega) fun h5 => hn (u5 c h5)).trans (List.getElem?_append_left hc))⟩
  (try (simp (disch := first | omega | (simp <;> omega) | fail) only [push_cast, ↓reduceIte, Nat.reduceEqDiff, Nat.reduceAdd, Nat.reduceMul, Nat.reduceSub, Nat.reduceLT, Int.reduceToNat]))
  all_goals (try exact ⟨hkq, hfin⟩)

def mkD : Nat → Int → Str → Str
  | 0, _, out => out
  | f + 1, k, out => if k ≤ 0 then out else mkD f (k / 10) (UInt8.ofNat (48 + k % 10).toNat :: out)
theorem mkD_done {f : Nat} {k : Int} {out : Str} (h : k ≤ 0) : mkD f k out = out := by
  cases f with
  | zero => rfl
  | succ f => rw [mkD, if_pos h]
theorem mkD_next {f : Nat} {k : Int} {out : Str} (h : 0 < k) : mkD (f + 1) k out = mkD f (k / 10) (UInt8.ofNat (48 + k % 10).toNat :: out) := by
  rw [mkD, if_neg (by omega)]
/-- A mark. -/
def mkT (k : Int) : Str := if k ≤ 0 then [109, 48] else 109 :: mkD 20 k []
def marks (k : Int) (n : Nat) : List Str := (List.range n).map fun i : Nat => mkT (k + (i : Int))
theorem marks_len {k : Int} {n : Nat} : (marks k n).length = n := by simp [marks]
theorem marks_succ {k : Int} {n : Nat} : marks k (n + 1) = marks k n ++ [mkT (k + (n : Int))] := by simp [marks, List.range_succ]
theorem marks_get {k : Int} {n i : Nat} (hi : i < n) : (marks k n).getD i [] = mkT (k + (i : Int)) := by simp [marks, hi]
theorem mk_set {k : Int} {l : List Str} {i : Nat} (hi : i < l.length) : ((marks k i ++ l.drop i).map AV.str).set i (.str (mkT (k + (i : Int)))) = (marks k (i + 1) ++ l.drop (i + 1)).map AV.str := by
  rw [List.drop_eq_getElem_cons hi, marks_succ]
  simp only [List.map_append, List.map_cons, List.append_assoc, List.map_nil, List.cons_append, List.nil_append]
  have := set_last (p := (marks k i).map AV.str) (r := (l.drop (i + 1)).map AV.str) (x := .str l[i]) (y := .str (mkT (k + (i : Int))))
  rw [List.length_map, marks_len] at this
  exact this
def MkI (h h' : H) (b : Nat) (L : List Str) : Prop := h'.length = h.length ∧ (∀ b', b' ≠ b → h'[b']? = h[b']?) ∧ h'.cells b = some (L.map .str)
theorem MkI.put {h h' : H} {b : Nat} {L L2 : List Str} {cs : List AV} (hm : MkI h h' b L) (hc : cs = L2.map .str) : MkI h (wr h' b cs) b L2 := by
  obtain ⟨h1, h2, h3⟩ := hm
  subst hc
  refine ⟨by simp [wr, h1], fun b' hb' => ?_, ?_⟩
  · unfold wr
    rw [List.getElem?_set_ne (Ne.symm hb')]
    exact h2 b' hb'
  · rw [cells_eq]
    unfold wr
    rw [List.getElem?_set_self (cells_lt h3)]
    rfl

theorem c_laws_markText (k : Int) (hk : k ≤ 1000000000) : Fn Tryz.prog 70 [.int .i64 k] (· = .str (mkT k)) := by
  refine Fn.of free_str fun h => ?_
  refine enter (by kernel_rfl) e70 (by kernel_rfl) rfl fun hok => ?_
  simp only [r70, initEnv_1]
  (try (simp (disch := first | omega | (simp <;> omega) | fail) only [push_cast, ↓reduceIte, Nat.reduceEqDiff, Nat.reduceAdd, Nat.reduceMul, Nat.reduceSub, Nat.reduceLT, Int.reduceToNat]))
  first | refine goC_split (fun hc => ?_) (fun hc => ?_) | refine cnd_split (fun hc => ?_) (fun hc => ?_)
  · (try (simp only [decide_eq_true_eq, decide_eq_false_iff_not, Bool.not_eq_true', Bool.not_eq_false', Bool.and_eq_true, Bool.or_eq_true, Int.not_lt, Int.not_le] at hc)); (try (simp (disch := first | omega | (simp <;> omega) | fail) only [push_cast, ↓reduceIte, Nat.reduceEqDiff, Nat.reduceAdd, Nat.reduceMul, Nat.reduceSub, Nat.reduceLT, Int.reduceToNat]))
    unfold mkT
    rw [if_pos hc]
  · (try (simp only [decide_eq_true_eq, decide_eq_false_iff_not, Bool.not_eq_true', Bool.not_eq_false', Bool.and_eq_true, Bool.or_eq_true, Int.not_lt, Int.not_le] at hc)); (try (simp (disch := first | omega | (simp <;> omega) | fail) only [push_cast, ↓reduceIte, Nat.reduceEqDiff, Nat.reduceAdd, Nat.reduceMul, Nat.reduceSub, Nat.reduceLT, Int.reduceToNat]))
    refine T_for 20 (fun i e h' => ∃ (q : Int) (out : Str), Pins e [(0, .int .i64 q), (3, .str out)] ∧ mkD (20 - i) q out = mkD 20 k [] ∧ 0 ≤ q ∧ q ≤ 1000000000 ∧ q < 10 ^ (20 - i) ∧ out.length ≤ i) ?_ ?_
    · refine ⟨k, [], ?_, rfl, by omega, hk, by omega, Nat.le_refl _⟩
      (try (simp (disch := first | omega | (simp <;> omega) | fail) only [push_cast, ↓reduceIte, Nat.reduceEqDiff, Nat.reduceAdd, Nat.reduceMul, Nat.reduceSub, Nat.reduceLT, Int.reduceToNat]))
    rintro i e h' hi ⟨q, out, hp, hm, hq0, hq1, hq2, hol⟩
    refine T_pins hp fun e => ?_
    (try (simp (disch := first | omega | (simp <;> omega) | fail) only [push_cast, ↓reduceIte, Nat.reduceEqDiff, Nat.reduceAdd, Nat.reduceMul, Nat.reduceSub, Nat.reduceLT, Int.reduceToNat]))
    first | refine goC_split (fun hd => ?_) (fun hd => ?_) | refine cnd_split (fun hd => ?_) (fun hd => ?_)
    · (try (simp only [decide_eq_true_eq, decide_eq_false_iff_not, Bool.not_eq_true', Bool.not_eq_false', Bool.and_eq_true, Bool.or_eq_true, Int.not_lt, Int.not_le] at hd)); (try (simp (disch := first | omega | (simp <;> omega) | fail) only [push_cast, ↓reduceIte, Nat.reduceEqDiff, Nat.reduceAdd, Nat.reduceMul, Nat.reduceSub, Nat.reduceLT, Int.reduceToNat]))
      have hi2 : i < 20 := by
        rcases Nat.lt_or_ge i 20 with h5 | h5
        · exact h5
        · rw [show 20 - i = 0 by omega] at hq2
          omega
      have hf : 20 - i = (20 - (i + 1)) + 1 := by omega
      have hmod : 0 ≤ q % 10 ∧ q % 10 ≤ 9 := by omega
      (try (simp (disch := first | omega | (simp <;> omega) | fail) only [push_cast, ↓reduceIte, Nat.reduceEqDiff, Nat.reduceAdd, Nat.reduceMul, Nat.reduceSub, Nat.reduceLT, Int.reduceToNat]))
      refine ⟨_, _, ⟨rfl, rfl⟩, ?_, by omega, by omega, ?_, ?_⟩
      · rw [hf, mkD_next hd] at hm
        exact hm
      · rw [hf, Int.pow_succ] at hq2
        exact Int.ediv_lt_of_lt_mul (by omega) hq2
      · simp
        omega
    · (try (simp only [decide_eq_true_eq, decide_eq_false_iff_not, Bool.not_eq_true', Bool.not_eq_false', Bool.and_eq_true, Bool.or_eq_true, Int.not_lt, Int.not_le] at hd)); (try (simp (disch := first | omega | (simp <;> omega) | fail) only [push_cast, ↓reduceIte, Nat.reduceEqDiff, Nat.reduceAdd, Nat.reduceMul, Nat.reduceSub, Nat.reduceLT, Int.reduceToNat]))
      rw [mkD_done (by omega)] at hm
      (try (simp (disch := first | omega | (simp <;> omega) | fail) only [push_cast, ↓reduceIte, Nat.reduceEqDiff, Nat.reduceAdd, Nat.reduceMul, Nat.reduceSub, Nat.reduceLT, Int.reduceToNat]))
      unfold mkT
      rw [if_neg (by omega), hm]

theorem c_laws_markStringS_nil (k : Int) : Fn Tryz.prog 27 [.nils, .int .i64 k] (· = .int .i64 k) := by
  refine Fn.of free_int fun h => ?_
  refine enter (by kernel_rfl) e27 (by kernel_rfl) rfl fun hok => ?_
  simp only [r27, initEnv_2]
  (try (simp (disch := first | omega | (simp <;> omega) | fail) only [push_cast, ↓reduceIte, Nat.reduceEqDiff, Nat.reduceAdd, Nat.reduceMul, Nat.reduceSub, Nat.reduceLT, Int.reduceToNat]))
  refine T_for 0 (fun i e h' => Pins e [(0, .nils), (1, .int .i64 k), (5, .int .i64 0)] ∧ h' = h) ?_ ?_
  · (try (simp (disch := first | omega | (simp <;> omega) | fail) only [push_cast, ↓reduceIte, Nat.reduceEqDiff, Nat.reduceAdd, Nat.reduceMul, Nat.reduceSub, Nat.reduceLT, Int.reduceToNat]))
  rintro i e h' hi ⟨hp, rfl⟩
  refine T_pins hp fun e => ?_
  (try (simp (disch := first | omega | (simp <;> omega) | fail) only [push_cast, ↓reduceIte, Nat.reduceEqDiff, Nat.reduceAdd, Nat.reduceMul, Nat.reduceSub, Nat.reduceLT, Int.reduceToNat]))
theorem c_laws_markStringS (v : AV) (l : List Str) (B : List Nat) (k : Int) (h : H) (hs : S1 h 1 v l.length (l.map .str) B) (hk : 0 ≤ k) (hk2 : k + l.length ≤ 100000000) :
    Call Tryz.prog 27 [v, .int .i64 k] h (fun b => b ∈ B) (fun x h' => x = .int .i64 (k + l.length) ∧ h'.length = h.length ∧ (∀ b, b ∉ B → h'[b]? = h[b]?) ∧ S1 h' 1 v l.length ((marks k l.length).map .str) B) := by
  rcases hs.2 with ⟨rfl, hl0, rfl⟩ | ⟨b, rfl, rfl, hcs⟩
  · have hl : l = [] := List.eq_nil_of_length_eq_zero hl0
    subst hl
    refine enter (by kernel_rfl) e27 (by kernel_rfl) rfl fun hok => ?_
    simp only [r27, initEnv_2]
    (try (simp (disch := first | omega | (simp <;> omega) | fail) only [push_cast, ↓reduceIte, Nat.reduceEqDiff, Nat.reduceAdd, Nat.reduceMul, Nat.reduceSub, Nat.reduceLT, Int.reduceToNat]))
    refine T_for 0 (fun i e h' => Pins e [(0, .nils), (1, .int .i64 k), (5, .int .i64 0)] ∧ h' = h) ?_ ?_
    · (try (simp (disch := first | omega | (simp <;> omega) | fail) only [push_cast, ↓reduceIte, Nat.reduceEqDiff, Nat.reduceAdd, Nat.reduceMul, Nat.reduceSub, Nat.reduceLT, Int.reduceToNat]))
    rintro i e h' hi ⟨hp, rfl⟩
    refine T_pins hp fun e => ?_
    (try (simp (disch := first | omega | (simp <;> omega) | fail) only [push_cast, ↓reduceIte, Nat.reduceEqDiff, Nat.reduceAdd, Nat.reduceMul, Nat.reduceSub, Nat.reduceLT, Int.reduceToNat]))
    all_goals (try exact S1.nil)
    all_goals (try exact ⟨by simp, S1.nil⟩)
  · refine enter (by kernel_rfl) e27 (by kernel_rfl) rfl fun hok => ?_
    simp only [r27, initEnv_2]
    have hpm : (b ∈ [b]) = True := by simp
    (try (simp (disch := first | omega | (simp <;> omega) | fail) only [push_cast, ↓reduceIte, Nat.reduceEqDiff, Nat.reduceAdd, Nat.reduceMul, Nat.reduceSub, Nat.reduceLT, Int.reduceToNat]))
    refine T_for l.length (fun i e h' => Pins e [(0, .sl b 0 1 l.length l.length), (1, .int .i64 (k + i)), (5, .int .i64 i)] ∧ MkI h h' b (marks k i ++ l.drop i)) ?_ ?_
    · (try (simp (disch := first | omega | (simp <;> omega) | fail) only [push_cast, ↓reduceIte, Nat.reduceEqDiff, Nat.reduceAdd, Nat.reduceMul, Nat.reduceSub, Nat.reduceLT, Int.reduceToNat]))
      all_goals (try exact ⟨rfl, fun _ _ => rfl, by simpa [marks] using hcs⟩)
    rintro i e h' hi ⟨hp, hm⟩
    refine T_pins hp fun e => ?_
    have hc2 := hm.2.2
    (try (simp (disch := first | omega | (simp <;> omega) | fail) only [push_cast, ↓reduceIte, Nat.reduceEqDiff, Nat.reduceAdd, Nat.reduceMul, Nat.reduceSub, Nat.reduceLT, Int.reduceToNat]))
    first | refine goC_split (fun hc => ?_) (fun hc => ?_) | refine cnd_split (fun hc => ?_) (fun hc => ?_)
    · (try (simp only [decide_eq_true_eq, decide_eq_false_iff_not, Bool.not_eq_true', Bool.not_eq_false', Bool.and_eq_true, Bool.or_eq_true, Int.not_lt, Int.not_le] at hc)); (try (simp (disch := first | omega | (simp <;> omega) | fail) only [push_cast, ↓reduceIte, Nat.reduceEqDiff, Nat.reduceAdd, Nat.reduceMul, Nat.reduceSub, Nat.reduceLT, Int.reduceToNat]))
      have hi2 : i < l.length := by omega
      have hset := mk_set (k := k) hi2
      have hln : ((marks k i ++ l.drop i).map AV.str).length = l.length := by
        simp [marks_len]
        omega
      have hlt : i < ((marks k i ++ l.drop i).map AV.str).length := by omega
      (try (simp (disch := first | omega | (simp <;> omega) | fail) only [push_cast, ↓reduceIte, Nat.reduceEqDiff, Nat.reduceAdd, Nat.reduceMul, Nat.reduceSub, Nat.reduceLT, Int.reduceToNat]))
      refine (c_laws_markText (k + i) (by omega)).call ?_
      (try (simp (disch := first | omega | (simp <;> omega) | fail) only [push_cast, ↓reduceIte, Nat.reduceEqDiff, Nat.reduceAdd, Nat.reduceMul, Nat.reduceSub, Nat.reduceLT, Int.reduceToNat, hc2, hpm, hln, over_set hlt, hset]))
      all_goals (try (refine ⟨by omega, ?_⟩))
      all_goals (try exact hm.put rfl)
      all_goals (try exact hm.put hset)
    · (try (simp only [decide_eq_true_eq, decide_eq_false_iff_not, Bool.not_eq_true', Bool.not_eq_false', Bool.and_eq_true, Bool.or_eq_true, Int.not_lt, Int.not_le] at hc)); (try (simp (disch := first | omega | (simp <;> omega) | fail) only [push_cast, ↓reduceIte, Nat.reduceEqDiff, Nat.reduceAdd, Nat.reduceMul, Nat.reduceSub, Nat.reduceLT, Int.reduceToNat]))
      have hie : i = l.length := by omega
      subst hie
      obtain ⟨m1, m2, m3⟩ := hm
      have e1 : marks k l.length ++ l.drop l.length = marks k l.length := by simp
      rw [e1] at m3
      have hs1 : S1 h' 1 (.sl b 0 1 l.length l.length) l.length ((marks k l.length).map .str) [b] := ⟨by simp [marks_len], .inr ⟨b, rfl, rfl, m3⟩⟩
      first | exact ⟨rfl, m1, fun b' hb' => m2 b' (by simpa using hb'), hs1⟩ | exact ⟨m1, fun b' hb' => m2 b' (by simpa using hb'), hs1⟩
theorem c_laws_markStringS_ow (v : AV) (l : List Str) (G : Nat → Prop) (k : Int) (h : H) (hs : Ow h [v] [eS (some l)] G) (hk : 0 ≤ k) (hk2 : k + l.length ≤ 100000000) :
    Call Tryz.prog 27 [v, .int .i64 k] h G (fun x h' => x = .int .i64 (k + l.length) ∧ Kp G h h') := by
  obtain ⟨b, cs, F, rfl, hc, hcl, hb, hF, hin, hre⟩ := Ow.open_ (show Ow h [v] [.ro 1 (l.map .str) l.length] G from hs)
  have hcs : cs = l.map .str := by
    refine List.ext_getElem? fun i => ?_
    by_cases hi : i < cs.length
    · have hi2 : i < (l.map AV.str).length := by rw [hin.len]; exact hi
      obtain ⟨F2, _, h2, _⟩ := hin.focus (List.getElem?_eq_getElem hi) (List.getElem?_eq_getElem hi2)
      rw [List.getElem?_eq_getElem hi, List.getElem?_eq_getElem hi2]
      exact congrArg some (h2.atomOf (by simp [atom]))
    · rw [List.getElem?_eq_none (by omega), List.getElem?_eq_none (by rw [hin.len]; omega)]
  rw [hcs] at hc
  refine (c_laws_markStringS (.sl b 0 1 l.length l.length) l [b] k h ⟨by simp, .inr ⟨b, rfl, rfl, hc⟩⟩ hk hk2).mono (fun x h' hx => ?_) (fun b' _ hb' => ?_)
  · obtain ⟨h1, h2, h3, _⟩ := hx
    refine ⟨h1, h2, fun c hc => h3 c ?_⟩
    intro h5
    rw [List.mem_singleton] at h5
    exact hc (by rw [h5]; exact hb)
  · rw [List.mem_singleton] at hb'
    rw [hb']
    exact hb

theorem c_laws_heldStringS_nil (k : Int) : Fn Tryz.prog 28 [.nils, .int .i64 k] (· = .int .i64 k) := by
  refine Fn.of free_int fun h => ?_
  refine enter (by kernel_rfl) e28 (by kernel_rfl) rfl fun hok => ?_
  simp only [r28, initEnv_2]
  (try (simp (disch := first | omega | (simp <;> omega) | fail) only [push_cast, ↓reduceIte, Nat.reduceEqDiff, Nat.reduceAdd, Nat.reduceMul, Nat.reduceSub, Nat.reduceLT, Int.reduceToNat]))
  refine T_for 0 (fun i e h' => Pins e [(0, .nils), (1, .int .i64 k), (5, .int .i64 0)] ∧ h' = h) ?_ ?_
  · (try (simp (disch := first | omega | (simp <;> omega) | fail) only [push_cast, ↓reduceIte, Nat.reduceEqDiff, Nat.reduceAdd, Nat.reduceMul, Nat.reduceSub, Nat.reduceLT, Int.reduceToNat]))
  rintro i e h' hi ⟨hp, rfl⟩
  refine T_pins hp fun e => ?_
  (try (simp (disch := first | omega | (simp <;> omega) | fail) only [push_cast, ↓reduceIte, Nat.reduceEqDiff, Nat.reduceAdd, Nat.reduceMul, Nat.reduceSub, Nat.reduceLT, Int.reduceToNat]))
theorem c_laws_heldStringS (a : Option (List Str)) (k : Int) (n : Nat) (ha : lS a = marks k n) (hk : 0 ≤ k) (hk2 : k + n ≤ 100000000) : Fn Tryz.prog 28 [eS a, .int .i64 k] (· = .int .i64 (k + n)) := by
  refine Fn.of free_int fun h => ?_
  refine enter (by kernel_rfl) e28 (by kernel_rfl) rfl fun hok => ?_
  simp only [r28, initEnv_2]
  have hln : (lS a).length = n := by rw [ha, marks_len]
  (try (simp (disch := first | omega | (simp <;> omega) | fail) only [push_cast, ↓reduceIte, Nat.reduceEqDiff, Nat.reduceAdd, Nat.reduceMul, Nat.reduceSub, Nat.reduceLT, Int.reduceToNat]))
  refine T_for n (fun i e h' => Pins e [(0, eS a), (1, .int .i64 (k + i)), (5, .int .i64 i)] ∧ h' = h) ?_ ?_
  · (try (simp (disch := first | omega | (simp <;> omega) | fail) only [push_cast, ↓reduceIte, Nat.reduceEqDiff, Nat.reduceAdd, Nat.reduceMul, Nat.reduceSub, Nat.reduceLT, Int.reduceToNat]))
    all_goals (try simp)
  rintro i e h' hi ⟨hp, rfl⟩
  refine T_pins hp fun e => ?_
  (try (simp (disch := first | omega | (simp <;> omega) | fail) only [push_cast, ↓reduceIte, Nat.reduceEqDiff, Nat.reduceAdd, Nat.reduceMul, Nat.reduceSub, Nat.reduceLT, Int.reduceToNat, hln]))
  first | refine goC_split (fun hc => ?_) (fun hc => ?_) | refine cnd_split (fun hc => ?_) (fun hc => ?_)
  · (try (simp only [decide_eq_true_eq, decide_eq_false_iff_not, Bool.not_eq_true', Bool.not_eq_false', Bool.and_eq_true, Bool.or_eq_true, Int.not_lt, Int.not_le] at hc)); (try (simp (disch := first | omega | (simp <;> omega) | fail) only [push_cast, ↓reduceIte, Nat.reduceEqDiff, Nat.reduceAdd, Nat.reduceMul, Nat.reduceSub, Nat.reduceLT, Int.reduceToNat]))
    have hi2 : i < (lS a).length := by omega
    have hg : (lS a).getD i [] = mkT (k + (i : Int)) := by rw [ha, marks_get (by omega)]
    (try (simp (disch := first | omega | (simp <;> omega) | fail) only [push_cast, ↓reduceIte, Nat.reduceEqDiff, Nat.reduceAdd, Nat.reduceMul, Nat.reduceSub, Nat.reduceLT, Int.reduceToNat, hln, hg]))
    refine (c_laws_markText (k + i) (by omega)).call ?_
    (try (simp (disch := first | omega | (simp <;> omega) | fail) only [push_cast, ↓reduceIte, Nat.reduceEqDiff, Nat.reduceAdd, Nat.reduceMul, Nat.reduceSub, Nat.reduceLT, Int.reduceToNat, hln, hg]))
    all_goals (try omega)
  · (try (simp only [decide_eq_true_eq, decide_eq_false_iff_not, Bool.not_eq_true', Bool.not_eq_false', Bool.and_eq_true, Bool.or_eq_true, Int.not_lt, Int.not_le] at hc)); (try (simp (disch := first | omega | (simp <;> omega) | fail) only [push_cast, ↓reduceIte, Nat.reduceEqDiff, Nat.reduceAdd, Nat.reduceMul, Nat.reduceSub, Nat.reduceLT, Int.reduceToNat]))

def shTrie : Sh := .st [.st [.int .i64, .sl (.int .i64) 1], .st [.int .i64, .sl (.int .i64) 1], .str]
theorem fit_trie {zs : List AV} (h : Fit shTrie zs) : ∃ t, argOf shTrie zs = eTr t ∧ t.lab.length ≤ 9223372036854775807 := by
  obtain ⟨x1, y1, rfl, h1, h⟩ := fits_cons (fit_st h)
  obtain ⟨x2, y2, rfl, h2, h⟩ := fits_cons h
  obtain ⟨x3, y3, rfl, h3, h⟩ := fits_cons h
  obtain rfl := fits_nil h
  obtain ⟨a1, b1, rfl, g1, g⟩ := fits_cons (fit_st h1)
  obtain ⟨a2, b2, rfl, g2, g⟩ := fits_cons g
  obtain rfl := fits_nil g
  obtain ⟨a, rfl, _⟩ := fit_int g1
  obtain ⟨ws, rfl⟩ := fit_ints g2
  obtain ⟨c1, d1, rfl, k1, k⟩ := fits_cons (fit_st h2)
  obtain ⟨c2, d2, rfl, k2, k⟩ := fits_cons k
  obtain rfl := fits_nil k
  obtain ⟨c, rfl, _⟩ := fit_int k1
  obtain ⟨vs, rfl⟩ := fit_ints k2
  obtain ⟨lab, rfl, hl⟩ := fit_str h3
  exact ⟨⟨⟨a, ws⟩, ⟨c, vs⟩, lab⟩, rfl, hl⟩
def isZT (v : AV) : Prop := ∃ n b, v = .tup [.int .i64 n, .bool b]
theorem isZT_zF : isZT zF := ⟨_, _, rfl⟩
theorem isZT_ch {N : List Str} {s : Str} : isZT (chR N s) := by
  unfold chR
  split
  · exact isZT_zF
  · exact ⟨_, _, rfl⟩
theorem isZT_pa {t : Tr} {i : Int} : isZT (paV t i) := by
  unfold paV
  split
  · split
    · exact ⟨_, _, rfl⟩
    · exact isZT_zF
  · exact isZT_zF
theorem isZT_chV {t : Tr} {i c : Int} : isZT (chV t i c) := by
  unfold chV
  split
  · split
    · exact isZT_ch
    · exact isZT_zF
  · exact isZT_zF
theorem isZT_tx {t : Tr} {s : Str} : isZT (txV t s) := by
  unfold txV
  split
  · split
    · exact ⟨_, _, rfl⟩
    · exact isZT_zF
  · exact isZT_zF
theorem isZT_rk {t : Tr} {s : Str} : isZT (rkV t s) := by
  unfold rkV
  split
  · exact ⟨_, _, rfl⟩
  · exact isZT_zF

theorem KyR_same {t : Tr} {p : Str → Bool} {o o' : Option (List Str)} {b b' : Bool} (h : KyR t p (.tup [eS o, .bool b])) (h' : KyR t p (.tup [eS o', .bool b'])) : b' = b ∧ lS o' = lS o := by
  have inj : ∀ {o1 o2 : Option (List Str)}, eS o1 = eS o2 → lS o1 = lS o2 := fun {o1 o2} he => by
    cases o1 <;> cases o2
    · rfl
    · cases he
    · cases he
    · rename_i a c
      injection he with _ he _
      exact List.map_inj_right (fun x y hxy => by injection hxy) |>.1 he
  obtain ⟨o1, b1, e1, h1⟩ := h
  obtain ⟨o2, b2, e2, h2⟩ := h'
  injection e1 with e1
  injection e1 with e1 e3
  injection e3 with e3 _
  injection e3 with e3
  injection e2 with e2
  injection e2 with e2 e4
  injection e4 with e4 _
  injection e4 with e4
  subst e3 e4
  have i1 := inj e1
  have i2 := inj e2
  rw [i1, i2]
  rcases h1 with ⟨rfl, K, k1, k2⟩ | ⟨rfl, k1, k2⟩ <;> rcases h2 with ⟨rfl, K2, k3, k4⟩ | ⟨rfl, k3, k4⟩
  · rw [k1] at k3
    injection k3 with k3
    subst k3
    exact ⟨rfl, k4.trans k2.symm⟩
  · rw [k1] at k3
    cases k3
  · rw [k1] at k3
    cases k3
  · exact ⟨rfl, k4.trans k2.symm⟩
theorem KyR_len {t : Tr} {p : Str → Bool} {o : Option (List Str)} {b : Bool} (h : KyR t p (.tup [eS o, .bool b])) : (lS o).length ≤ 40 := by
  have inj : ∀ {o1 o2 : Option (List Str)}, eS o1 = eS o2 → (lS o1).length = (lS o2).length := fun {o1 o2} he => by
    cases o1 <;> cases o2
    · rfl
    · cases he
    · cases he
    · rename_i a c
      injection he
  obtain ⟨o1, b1, e1, h1⟩ := h
  injection e1 with e1
  injection e1 with e1 _
  rw [inj e1]
  rcases h1 with ⟨_, K, k1, k2⟩ | ⟨_, _, k2⟩
  · rw [k2]
    exact Nat.le_trans (List.length_filter_le _ _) (trV_ok k1).2
  · rw [k2]
    simp
theorem eS_S1 {h : H} {x : AV} {o : Option (List Str)} {G : Nat → Prop} (ho : Ow h [x] [eS o] G) : ∃ B, S1 h 1 x (lS o).length ((lS o).map .str) B ∧ ∀ c ∈ B, G c := by
  rcases eS_ow ho with ⟨rfl, rfl⟩ | ⟨L, b, rfl, rfl, h3, h4⟩
  · exact ⟨[], S1.nil, by simp⟩
  · exact ⟨[b], ⟨by simp, .inr ⟨b, rfl, rfl, h4⟩⟩, by simpa using h3⟩

def sh_FnExactKeysWithPrefix : List Sh := [shTrie, .str]
theorem law_FnExactKeysWithPrefix (ys : List AV) (hy : ArgsFit sh_FnExactKeysWithPrefix ys) : Call Tryz.prog 8 ys [] Nowhere (fun x _ => x = .bool true) := by
  obtain ⟨x1, y1, rfl, h1, hy⟩ := argsFit_cons hy
  obtain ⟨x2, y2, rfl, h2, hy⟩ := argsFit_cons hy
  obtain rfl := argsFit_nil hy
  obtain ⟨t, he, hlr⟩ := fit_trie h1
  obtain ⟨s, rfl, hrs⟩ := fit_str h2
  rw [he]
  refine (?_ : ∀ h, Call Tryz.prog 8 [eTr t, .str s] h Nowhere (fun x _ => x = .bool true)) []
  intro h
  refine enter (by kernel_rfl) e8 (by kernel_rfl) rfl fun hok => ?_
  simp only [r8, initEnv_2]
  (try (simp (disch := first | omega | (simp <;> omega) | fail) only [push_cast, ↓reduceIte, Nat.reduceEqDiff, Nat.reduceAdd, Nat.reduceMul, Nat.reduceSub, Nat.reduceLT, Int.reduceToNat]))
  first | refine goC_split (fun hc => ?_) (fun hc => ?_) | refine cnd_split (fun hc => ?_) (fun hc => ?_)
  · (try (simp only [decide_eq_true_eq, decide_eq_false_iff_not, Bool.not_eq_true', Bool.not_eq_false', Bool.and_eq_true, Bool.or_eq_true, Int.not_lt, Int.not_le] at hc)); (try (simp (disch := first | omega | (simp <;> omega) | fail) only [push_cast, ↓reduceIte, Nat.reduceEqDiff, Nat.reduceAdd, Nat.reduceMul, Nat.reduceSub, Nat.reduceLT, Int.reduceToNat]))
  (try (simp only [decide_eq_true_eq, decide_eq_false_iff_not, Bool.not_eq_true', Bool.not_eq_false', Bool.and_eq_true, Bool.or_eq_true, Int.not_lt, Int.not_le] at hc)); (try (simp (disch := first | omega | (simp <;> omega) | fail) only [push_cast, ↓reduceIte, Nat.reduceEqDiff, Nat.reduceAdd, Nat.reduceMul, Nat.reduceSub, Nat.reduceLT, Int.reduceToNat]))
  have hsl : s.length ≤ 1048576 := by omega
  clear hc
  refine (c_laws_szTrie t 1048576 (by omega) (by omega) hlr).call ?_
  (try (simp (disch := first | omega | (simp <;> omega) | fail) only [push_cast, ↓reduceIte, Nat.reduceEqDiff, Nat.reduceAdd, Nat.reduceMul, Nat.reduceSub, Nat.reduceLT, Int.reduceToNat]))
  first | refine goC_split (fun hd => ?_) (fun hd => ?_) | refine cnd_split (fun hd => ?_) (fun hd => ?_)
  · (try (simp only [decide_eq_true_eq, decide_eq_false_iff_not, Bool.not_eq_true', Bool.not_eq_false', Bool.and_eq_true, Bool.or_eq_true, Int.not_lt, Int.not_le] at hd)); (try (simp (disch := first | omega | (simp <;> omega) | fail) only [push_cast, ↓reduceIte, Nat.reduceEqDiff, Nat.reduceAdd, Nat.reduceMul, Nat.reduceSub, Nat.reduceLT, Int.reduceToNat]))
  (try (simp only [decide_eq_true_eq, decide_eq_false_iff_not, Bool.not_eq_true', Bool.not_eq_false', Bool.and_eq_true, Bool.or_eq_true, Int.not_lt, Int.not_le] at hd)); (try (simp (disch := first | omega | (simp <;> omega) | fail) only [push_cast, ↓reduceIte, Nat.reduceEqDiff, Nat.reduceAdd, Nat.reduceMul, Nat.reduceSub, Nat.reduceLT, Int.reduceToNat]))
  have hw := szv_ok hd
  have hw1 : (lI t.sh.words).length ≤ 1048576 := by omega
  have hw2 : (lI t.en.words).length ≤ 1048576 := by omega
  have hcl1 : (lI (cpTr t).sh.words).length = (lI t.sh.words).length := rfl
  have hcl2 : (lI (cpTr t).en.words).length = (lI t.en.words).length := rfl
  refine (c_laws_toTrie t hw1 hw2).call ?_
  (try (simp (disch := first | omega | (simp <;> omega) | fail) only [push_cast, ↓reduceIte, Nat.reduceEqDiff, Nat.reduceAdd, Nat.reduceMul, Nat.reduceSub, Nat.reduceLT, Int.reduceToNat]))
  refine (c_spec_KeysWithPrefix (cpTr t) s (by omega)).use fun wv hwv => ?_
  obtain ⟨o, b, rfl, hwc⟩ := hwv
  have hK0 : KyR (cpTr t) (pfB s) (.tup [eS o, .bool b]) := ⟨o, b, rfl, hwc⟩
  have hol := KyR_len hK0
  have himpl := c_impl_KeysWithPrefix_o (cpTr t) s (by omega)
  have heqS : ∀ o', lS o' = lS o → Fn Tryz.prog 25 [eS o', eS o] (· = .bool true) := fun o' h5 => by
    have := c_laws_eqStringS o' o
    rw [h5] at this
    simpa using this
  clear hwc
  (try (simp (disch := first | omega | (simp <;> omega) | fail) only [push_cast, ↓reduceIte, Nat.reduceEqDiff, Nat.reduceAdd, Nat.reduceMul, Nat.reduceSub, Nat.reduceLT, Int.reduceToNat]))
  refine (c_laws_toTrie_o t hw1 hw2).go fun x t' h1 hR hx1 how => ?_
  subst hR
  have hb1 : H.cells h1 h.length = some (cTr t) := hx1.cells (by rw [cells_h0]; rfl)
  obtain ⟨x2, x4, F2, F4, rfl, f2, f4, _, _, _⟩ := ow_trE how
  obtain ⟨p1, p2⟩ := ow_eI f2
  obtain ⟨p3, p4⟩ := ow_eI f4
  clear f2 f4
  have hl1 := hx1.len
  simp only [List.length_append, List.length_cons, List.length_nil] at hl1 how
  have hct : cTr t = [.int .i64 t.sh.size, eI t.sh.words, .int .i64 t.en.size, eI t.en.words, .str t.lab] := rfl
  rw [hct] at hb1
  (try (simp (disch := first | omega | (simp <;> omega) | fail) only [push_cast, ↓reduceIte, Nat.reduceEqDiff, Nat.reduceAdd, Nat.reduceMul, Nat.reduceSub, Nat.reduceLT, Int.reduceToNat, hb1, p1, p2, p3, p4, reads, List.mem_cons, List.mem_append, List.not_mem_nil, nat_ff, or_self, or_false, false_or, not_false_eq_true]))
  refine himpl.goL (.cons (Ext.refl.app.ow how).vw0 (.free free_str .nil)) fun y t' h2 hR hx2 how2 => ?_
  obtain ⟨og, bg, rfl, hgc⟩ := hR
  obtain ⟨hbb, hll⟩ := KyR_same hK0 ⟨og, bg, rfl, hgc⟩
  subst hbb
  clear hgc
  obtain ⟨g0, rfl, how3⟩ := ow_tup2 rfl how2
  clear how2
  have hl2 := hx2.len
  simp only [List.length_append, List.length_cons, List.length_nil] at hl2 how3
  have hb2 : H.cells h2 h.length = some [.int .i64 t.sh.size, eI t.sh.words, .int .i64 t.en.size, eI t.en.words, .str t.lab] := hx2.cells (cells_app hb1)
  have hx0 : H.cells h2 h1.length = some [.int .i64 (cpTr t).sh.size, x2, .int .i64 (cpTr t).en.size, x4, .str (cpTr t).lab] := hx2.cells (by rw [cells_h0]; rfl)
  have how1 : Ow h2 [.agg [.int .i64 (cpTr t).sh.size, x2, .int .i64 (cpTr t).en.size, x4, .str (cpTr t).lab]] [eTr (cpTr t)] (Seg (h.length + 1) h1) := hx2.ow2 (Ext.refl.app.ow how) (by simp)
  clear how hx1
  cases bg
  all_goals
    (try (simp (disch := first | omega | (simp <;> omega) | fail) only [push_cast, ↓reduceIte, Nat.reduceEqDiff, Nat.reduceAdd, Nat.reduceMul, Nat.reduceSub, Nat.reduceLT, Int.reduceToNat, hb2, p1, p2, p3, p4]))
    refine (heqS og hll).lendL (.cons how3.vw0 (.free free_eS .nil)) own_bool ?_
    (try (simp (disch := first | omega | (simp <;> omega) | fail) only [push_cast, ↓reduceIte, Nat.reduceEqDiff, Nat.reduceAdd, Nat.reduceMul, Nat.reduceSub, Nat.reduceLT, Int.reduceToNat, hb2, hx0, p1, p2, p3, p4]))
    refine (c_laws_toTrie t hw1 hw2).call ?_
    (try (simp (disch := first | omega | (simp <;> omega) | fail) only [push_cast, ↓reduceIte, Nat.reduceEqDiff, Nat.reduceAdd, Nat.reduceMul, Nat.reduceSub, Nat.reduceLT, Int.reduceToNat, hb2, hx0, p1, p2, p3, p4]))
    refine (c_laws_eqTrie (cpTr t)).lendL (.cons how1.vw0 (.free free_eTr .nil)) own_bool ?_
    (try (simp (disch := first | omega | (simp <;> omega) | fail) only [push_cast, ↓reduceIte, Nat.reduceEqDiff, Nat.reduceAdd, Nat.reduceMul, Nat.reduceSub, Nat.reduceLT, Int.reduceToNat, hb2, hx0, p1, p2, p3, p4]))
    refine (c_laws_markTrie _ (cpTr t) _ 1 _ how1 (fun c hc => by have := hc.2; omega) (by omega) (by rw [hcl1, hcl2]; omega)).mono (fun x h3 hx => ?_) (fun c _ hc => Or.inr (by have := hc.1; omega))
    obtain ⟨rfl, hk1, _⟩ := hx
    have hb3 : H.cells h3 h.length = some [.int .i64 t.sh.size, eI t.sh.words, .int .i64 t.en.size, eI t.en.words, .str t.lab] := cells_keep (hk1.2 _ (by omega) fun hc => by have := hc.1; omega) hb2
    have how4 := hk1.ow how3 fun c hc => ⟨hc.2, fun hd => by have := hc.1; have := hd.2; omega⟩
    have hl3 := hk1.1
    (try (simp (disch := first | omega | (simp <;> omega) | fail) only [push_cast, ↓reduceIte, Nat.reduceEqDiff, Nat.reduceAdd, Nat.reduceMul, Nat.reduceSub, Nat.reduceLT, Int.reduceToNat, hb3]))
    refine (heqS og hll).lendL (.cons how4.vw0 (.free free_eS .nil)) own_bool ?_
    obtain ⟨B, hS, hB⟩ := eS_S1 how4
    rw [hll] at hS
    (try (simp (disch := first | omega | (simp <;> omega) | fail) only [push_cast, ↓reduceIte, Nat.reduceEqDiff, Nat.reduceAdd, Nat.reduceMul, Nat.reduceSub, Nat.reduceLT, Int.reduceToNat, hb3]))
    refine (c_laws_markStringS g0 (lS o) B 1 _ hS (by omega) (by omega)).mono (fun x h4 hx => ?_) (fun c _ hc => Or.inr (by have := (hB c hc).1; omega))
    obtain ⟨rfl, hl4, hk2, hS4⟩ := hx
    have hb4 : H.cells h4 h.length = some [.int .i64 t.sh.size, eI t.sh.words, .int .i64 t.en.size, eI t.en.words, .str t.lab] := cells_keep (hk2 _ fun hc => by have := (hB _ hc).1; omega) hb3
    have hml : (marks 1 (lS o).length).length = (lS o).length := marks_len
    obtain ⟨o5, w5, l5⟩ := S1.vwS0 (n0 := 0) hS4 (fun _ _ => Nat.zero_le _)
    (try (simp (disch := first | omega | (simp <;> omega) | fail) only [push_cast, ↓reduceIte, Nat.reduceEqDiff, Nat.reduceAdd, Nat.reduceMul, Nat.reduceSub, Nat.reduceLT, Int.reduceToNat, hb4]))
    refine (c_laws_heldStringS o5 1 (lS o).length l5 (by omega) (by omega)).lendL (.cons w5 (.free free_int .nil)) own_int ?_
    (try (simp (disch := first | omega | (simp <;> omega) | fail) only [push_cast, ↓reduceIte, Nat.reduceEqDiff, Nat.reduceAdd, Nat.reduceMul, Nat.reduceSub, Nat.reduceLT, Int.reduceToNat, hb4]))
    refine (c_laws_toTrie t hw1 hw2).call ?_
    (try (simp (disch := first | omega | (simp <;> omega) | fail) only [push_cast, ↓reduceIte, Nat.reduceEqDiff, Nat.reduceAdd, Nat.reduceMul, Nat.reduceSub, Nat.reduceLT, Int.reduceToNat, hb4]))
    refine himpl.fn.use fun v hv => ?_
    obtain ⟨oh, bh, rfl, hhc⟩ := hv
    obtain ⟨hbh, hlh⟩ := KyR_same hK0 ⟨oh, bh, rfl, hhc⟩
    subst hbh
    (try (simp (disch := first | omega | (simp <;> omega) | fail) only [push_cast, ↓reduceIte, Nat.reduceEqDiff, Nat.reduceAdd, Nat.reduceMul, Nat.reduceSub, Nat.reduceLT, Int.reduceToNat, hb4]))
    refine (heqS oh hlh).call ?_
    (try (simp (disch := first | omega | (simp <;> omega) | fail) only [push_cast, ↓reduceIte, Nat.reduceEqDiff, Nat.reduceAdd, Nat.reduceMul, Nat.reduceSub, Nat.reduceLT, Int.reduceToNat, hb4]))
    refine (c_laws_heldStringS o5 1 (lS o).length l5 (by omega) (by omega)).lendL (.cons w5 (.free free_int .nil)) own_int ?_
    (try (simp (disch := first | omega | (simp <;> omega) | fail) only [push_cast, ↓reduceIte, Nat.reduceEqDiff, Nat.reduceAdd, Nat.reduceMul, Nat.reduceSub, Nat.reduceLT, Int.reduceToNat, hb4]))

end Go.Proofs.YtidhhiecgehgfaaGreat.M
