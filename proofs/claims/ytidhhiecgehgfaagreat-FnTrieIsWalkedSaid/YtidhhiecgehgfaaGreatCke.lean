/-
  What the functions return.
-/
import Derived.Test.YtidhhiecgehgfaaGreatFke
import Derived.Test.YtidhhiecgehgfaaGreatCkd
namespace Go.Proofs.YtidhhiecgehgfaaGreat.M
open Go Go.RowKit
set_option linter.unusedVariables false
set_option linter.unusedSimpArgs false
set_option maxRecDepth 4000

def zF : AV := .tup [.int .i64 0, .bool false]
def paV (t : Tr) (i : Int) : AV := match trV t with
  | some K => if 1 ≤ i ∧ i ≤ ((nodesK K).length : Int) - 1 then .tup [.int .i64 (fndI (nodesK K) (((nodesK K).getD i.toNat []).take (((nodesK K).getD i.toNat []).length - 1))), .bool true] else zF
  | none => zF
def chR (N : List Str) (s : Str) : AV := if fndI N s < 0 then zF else .tup [.int .i64 (fndI N s), .bool true]
def chV (t : Tr) (i c : Int) : AV := match trV t with
  | some K => if (0 ≤ i ∧ i ≤ ((nodesK K).length : Int) - 1) ∧ (0 ≤ c ∧ c ≤ 255) then chR (nodesK K) ((nodesK K).getD i.toNat [] ++ [UInt8.ofNat c.toNat]) else zF
  | none => zF
def txV (t : Tr) (s : Str) : AV := match trV t with
  | some K => if s ∈ K then .tup [.int .i64 (fndI ((nodesK K).filter fun x => decide (x ∈ K)) s), .bool true] else zF
  | none => zF
def rkV (t : Tr) (s : Str) : AV := match trV t with
  | some K => .tup [.int .i64 (rkS K s), .bool true]
  | none => zF
def KyR (t : Tr) (p : Str → Bool) (v : AV) : Prop := ∃ o b, v = .tup [eS o, .bool b] ∧ ((b = true ∧ ∃ K, trV t = some K ∧ lS o = K.filter p) ∨ (b = false ∧ trV t = none ∧ lS o = []))
def okV (t : Tr) : AV := match trV t with
  | some K => .tup [eS (some (nodesK K)), .bool true]
  | none => .tup [.nils, .bool false]
theorem trV_ok {t : Tr} {K : List Str} (h : trV t = some K) : okKeys K = true ∧ K.length ≤ 40 := ⟨(trV_some h).keys, (okKeys_all (trV_some h).keys).2.2⟩
theorem KyR.no {t : Tr} {p : Str → Bool} (h : trV t = none) : KyR t p (.tup [.nils, .bool false]) := ⟨none, false, rfl, .inr ⟨rfl, h, rfl⟩⟩

def nF : AV := .tup [.str [], .nils, .bool false]
def naV (t : Tr) (i : Int) : AV := match trV t with
  | some K => if 0 ≤ i ∧ i ≤ ((nodesK K).length : Int) - 1 then .tup [.str ((nodesK K).getD i.toNat []), eS (some (nodesK K)), .bool true] else nF
  | none => nF
theorem ow_nF {h : H} {x : AV} {G : Nat → Prop} (ho : Ow h [x] [nF] G) : x = nF := by
  obtain ⟨cs, rfl, h1⟩ := Ow.openTup (show Ow h [x] [.tup _] G from ho)
  rw [ow_atoms_eqT h1 (by simp [M.atom])]
  rfl
theorem nF_ow {h : H} {G : Nat → Prop} : Ow h [nF] [nF] G := (Ow.atom rfl (.atom rfl (.atom rfl .nil)) : Ow h [.str [], .nils, .bool false] [.str [], .nils, .bool false] G).tupOf
theorem ow_na {h : H} {x : AV} {s : Str} {N : List Str} {G : Nat → Prop} (ho : Ow h [x] [.tup [.str s, eS (some N), .bool true]] G) : ∃ b, x = .tup [.str s, .sl b 0 1 N.length N.length, .bool true] ∧ G b ∧ h.cells b = some (N.map .str) := by
  obtain ⟨cs, rfl, h1⟩ := Ow.openTup ho
  have hl : cs.length = 3 := h1.len.symm
  match cs, hl, h1 with
  | [x1, x2, x3], _, h1 =>
    obtain ⟨_, F, f1, h2, _, e1⟩ := h1.uncons
    obtain ⟨F2, F3, f2, h3, e2, e3⟩ := h2.uncons
    have a1 : x1 = .str s := f1.atomOf rfl
    have a3 : x3 = .bool true := h3.atomOf rfl
    obtain ⟨b, rfl, hb, hc⟩ := ow_strs f2
    subst a1 a3
    exact ⟨b, rfl, (e1 b (e2 b hb)).1, hc⟩
theorem own_zF {n : Nat} : Own n zF := own_tup (own_cons_ own_int (own_cons_ own_bool own_nil_))
theorem own_chR {n : Nat} {N : List Str} {s : Str} : Own n (chR N s) := by
  unfold chR
  split
  · exact own_zF
  · exact own_tup (own_cons_ own_int (own_cons_ own_bool own_nil_))
theorem free_zF : Free zF := free_tup (free_cons_ free_int (free_cons_ free_bool free_nil_))
theorem free_chR {N : List Str} {s : Str} : Free (chR N s) := by
  unfold chR
  split
  · exact free_zF
  · exact free_tup (free_cons_ free_int (free_cons_ free_bool free_nil_))
theorem chR_in {N : List Str} {s : Str} (h : s ∈ N) : chR N s = .tup [.int .i64 (fndI N s), .bool true] := by
  unfold chR
  rw [if_neg (fun h5 => fnd_neg.1 h5 h)]

theorem c_impl_Trie_nodeAt_o (t : Tr) (i : Int) : FnO Tryz.prog 57 [.rad (cTr t) 0, .int .i64 i] (· = naV t i) := by
  intro h
  refine enter (by kernel_rfl) e57 (by kernel_rfl) rfl fun hok => ?_
  simp only [r57, initEnv_2]
  have hn := c_impl_Trie_nodes_o t
  have hkk := fun K => @trV_ok t K
  have hnv : noV t = match trV t with | some K => eS (some (nodesK K)) | none => .nils := rfl
  have hna : naV t i = match trV t with | some K => if 0 ≤ i ∧ i ≤ ((nodesK K).length : Int) - 1 then .tup [.str ((nodesK K).getD i.toNat []), eS (some (nodesK K)), .bool true] else nF | none => nF := rfl
  rw [hnv] at hn
  clear hnv
  generalize naV t i = R at hna
  obtain ⟨⟨ss, sw⟩, ⟨es, ew⟩, lab⟩ := t
  have hnF : ∀ hh : H, ∃ t', Ow hh [.tup [.str [], .nils, .bool false]] [t'] (fun c => h.length ≤ c) ∧ t' = nF := fun hh => ⟨_, nF_ow, rfl⟩
  cases hv : trV ⟨⟨ss, sw⟩, ⟨es, ew⟩, lab⟩ with
  | none =>
    rw [hv] at hn hna
    simp only at hn hna
    subst hna
    (try (simp (disch := first | omega | (simp <;> omega) | fail) only [push_cast, ↓reduceIte, Nat.reduceEqDiff, Nat.reduceAdd, Nat.reduceMul, Nat.reduceSub, Nat.reduceLT, Int.reduceToNat]))
    refine hn.go fun x t' g hR hx how => ?_
    subst hR
    have hxn : x = .nils := how.atomOf rfl
    subst hxn
    (try (simp (disch := first | omega | (simp <;> omega) | fail) only [push_cast, ↓reduceIte, Nat.reduceEqDiff, Nat.reduceAdd, Nat.reduceMul, Nat.reduceSub, Nat.reduceLT, Int.reduceToNat]))
    refine (c_impl_in i 0 (0 - 1)).call ?_
    have hb : (decide (0 ≤ i) && decide (i ≤ 0 - 1)) = false := by
      rw [Bool.and_eq_false_iff, decide_eq_false_iff_not, decide_eq_false_iff_not]
      omega
    rw [hb]
    (try (simp (disch := first | omega | (simp <;> omega) | fail) only [push_cast, ↓reduceIte, Nat.reduceEqDiff, Nat.reduceAdd, Nat.reduceMul, Nat.reduceSub, Nat.reduceLT, Int.reduceToNat]))
    all_goals (try exact hnF _)
  | some K =>
    rw [hv] at hn hna
    simp only at hn hna
    have hKo := hkk K hv
    have hN1 := nodesK_cap hKo.2
    generalize nodesK K = N at *
    (try (simp (disch := first | omega | (simp <;> omega) | fail) only [push_cast, ↓reduceIte, Nat.reduceEqDiff, Nat.reduceAdd, Nat.reduceMul, Nat.reduceSub, Nat.reduceLT, Int.reduceToNat]))
    refine hn.go fun x t' g hR hx how => ?_
    subst hR
    obtain ⟨b, rfl, hb0, hcb⟩ := ow_strs how
    (try (simp (disch := first | omega | (simp <;> omega) | fail) only [push_cast, ↓reduceIte, Nat.reduceEqDiff, Nat.reduceAdd, Nat.reduceMul, Nat.reduceSub, Nat.reduceLT, Int.reduceToNat]))
    refine (c_impl_in i 0 ((N.length : Int) - 1)).call ?_
    by_cases hc : 0 ≤ i ∧ i ≤ (N.length : Int) - 1
    · rw [if_pos hc] at hna
      rw [decide_eq_true hc.1, decide_eq_true hc.2]
      obtain ⟨j, rfl⟩ : ∃ j : Nat, i = (j : Int) := ⟨i.toNat, by omega⟩
      have hj : j < N.length := by omega
      rw [Int.toNat_natCast] at hna
      obtain ⟨s, hs⟩ : ∃ s, s = N.getD j [] := ⟨_, rfl⟩
      have hgs : (N.map AV.str)[j]? = some (.str s) := by rw [hs]; exact get_S hj
      rw [← hs] at hna
      have hia : iaddrA 1 (.sl b 0 1 N.length N.length) (.int .i64 (j : Int)) = some (.adr b j) := by
        rw [iaddrA_sl (by omega) (by omega)]
        simp
      have hfin : ∃ t', Ow g [.tup [.str s, .sl b 0 1 N.length N.length, .bool true]] [t'] (fun c => h.length ≤ c) ∧ t' = R := by
        rw [hna]
        refine ⟨_, (Ow.atom rfl ((ow_strs_of (G := fun c => c = b) hcb rfl).cons (F' := fun _ => False) (.atom rfl .nil) (fun c hc => ?_) (fun _ h => h.elim)) : Ow g [.str s, .sl b 0 1 N.length N.length, .bool true] [.str s, eS (some N), .bool true] (fun c => h.length ≤ c)).tupOf, rfl⟩
        rw [hc]
        exact hb0.1
      (try (simp (disch := first | omega | (simp <;> omega) | fail) only [push_cast, ↓reduceIte, Nat.reduceEqDiff, Nat.reduceAdd, Nat.reduceMul, Nat.reduceSub, Nat.reduceLT, Int.reduceToNat, hia, hcb, hgs]))
      all_goals (try exact hfin)
    · rw [if_neg hc] at hna
      subst hna
      have hb : (decide (0 ≤ i) && decide (i ≤ (N.length : Int) - 1)) = false := by
        rw [Bool.and_eq_false_iff, decide_eq_false_iff_not, decide_eq_false_iff_not]
        omega
      rw [hb]
      (try (simp (disch := first | omega | (simp <;> omega) | fail) only [push_cast, ↓reduceIte, Nat.reduceEqDiff, Nat.reduceAdd, Nat.reduceMul, Nat.reduceSub, Nat.reduceLT, Int.reduceToNat]))
      all_goals (try exact hnF _)

def fnV (t : Tr) (s : Str) : AV := match trV t with
  | some K => chR (nodesK K) s
  | none => zF
theorem chR_nil {s : Str} : chR [] s = zF := by
  unfold chR
  rw [if_pos (by rw [fnd_no (by simp)]; decide)]

/-- The labels of a node's children, in their order. -/
def labsN (N : List Str) (s : Str) : Str := (ch N s).map (·.getLastD 0)
def nP : AV := .tup [.str [], .bool false]
def pfV (t : Tr) (i : Int) : AV := match trV t with
  | some K => if 0 ≤ i ∧ i ≤ ((nodesK K).length : Int) - 1 then .tup [.str ((nodesK K).getD i.toNat []), .bool true] else nP
  | none => nP
def lbV (t : Tr) (i : Int) : AV := match trV t with
  | some K => if 0 ≤ i ∧ i ≤ ((nodesK K).length : Int) - 1 then .tup [.str (labsN (nodesK K) ((nodesK K).getD i.toNat [])), .bool true] else nP
  | none => nP
theorem free_nP : Free nP := free_tup (free_cons_ free_str (free_cons_ free_bool free_nil_))
theorem free_pfV {t : Tr} {i : Int} : Free (pfV t i) := by
  unfold pfV
  split <;> (try split) <;> first | exact free_nP | exact free_tup (free_cons_ free_str (free_cons_ free_bool free_nil_))
theorem free_lbV {t : Tr} {i : Int} : Free (lbV t i) := by
  unfold lbV
  split <;> (try split) <;> first | exact free_nP | exact free_tup (free_cons_ free_str (free_cons_ free_bool free_nil_))
theorem labs_len {N : List Str} {s : Str} : (labsN N s).length ≤ N.length := by
  unfold labsN ch
  rw [List.length_map]
  exact List.length_filter_le _ _
theorem labs_get {N : List Str} {s : Str} {k : Nat} (hk : k < (labsN N s).length) : s ++ [(labsN N s).getD k 0] ∈ N := by
  unfold labsN at hk ⊢
  rw [List.length_map] at hk
  have h1 : (ch N s)[k] ∈ ch N s := List.getElem_mem hk
  have h2 := ch_mem.1 h1
  have h3 := chB_eq h2.2
  rw [List.getD_eq_getElem?_getD, List.getElem?_map, List.getElem?_eq_getElem hk]
  simp only [Option.map_some, Option.getD_some]
  rw [← h3]
  exact h2.1
theorem labs_up {N : List Str} (hN : N.Pairwise nlt) {s : Str} {k : Nat} (hk : k + 1 < (labsN N s).length) : ((labsN N s).getD k 0).toNat < ((labsN N s).getD (k + 1) 0).toNat := by
  unfold labsN at hk ⊢
  rw [List.length_map] at hk
  have hp : (ch N s).Pairwise nlt := List.Pairwise.filter _ hN
  have h1 := List.pairwise_iff_getElem.1 hp k (k + 1) (by omega) hk (by omega)
  have g1 := chB_eq (ch_mem.1 (List.getElem_mem (show k < (ch N s).length by omega))).2
  have g2 := chB_eq (ch_mem.1 (List.getElem_mem hk)).2
  rw [List.getD_eq_getElem?_getD, List.getD_eq_getElem?_getD, List.getElem?_map, List.getElem?_map, List.getElem?_eq_getElem hk, List.getElem?_eq_getElem (show k < (ch N s).length by omega)]
  simp only [Option.map_some, Option.getD_some]
  generalize (ch N s)[k] = a at *
  generalize (ch N s)[k + 1] = b at *
  generalize a.getLastD 0 = x at *
  generalize b.getLastD 0 = y at *
  subst g1 g2
  rcases h1 with h1 | ⟨_, h1⟩
  · simp at h1
  · rw [bl_app rfl, bl_irr, Bool.false_or, Bool.and_eq_true] at h1
    have h2 := h1.2
    rw [bl_cons, bl_nil] at h2
    simp only [Bool.and_false, Bool.or_false, decide_eq_true_eq] at h2
    exact UInt8.lt_iff_toNat_lt.1 h2
theorem fnd_nd {N : List Str} (hN : N.Pairwise nlt) {j : Nat} (hj : j < N.length) : fndI N (N.getD j []) = j := by
  refine idx_at hj rfl fun h => ?_
  obtain ⟨i, hi, h1⟩ := List.mem_iff_getElem.1 h
  rw [List.length_take] at hi
  rw [List.getElem_take, List.getD_eq_getElem?_getD, List.getElem?_eq_getElem hj] at h1
  simp only [Option.getD_some] at h1
  have h2 := List.pairwise_iff_getElem.1 hN i j (by omega) hj (by omega)
  rw [h1] at h2
  exact nlt_irr _ h2
/-- What is above comes before. -/
theorem fnd_up {N : List Str} (hN : N.Pairwise nlt) {i j : Nat} (hi : i < N.length) (hj : j < N.length) (h : (N.getD i []).length < (N.getD j []).length) : i < j := by
  rw [List.getD_eq_getElem?_getD, List.getD_eq_getElem?_getD, List.getElem?_eq_getElem hi, List.getElem?_eq_getElem hj] at h
  simp only [Option.getD_some] at h
  rcases Nat.lt_trichotomy i j with h5 | h5 | h5
  · exact h5
  · subst h5
    omega
  · have h2 := List.pairwise_iff_getElem.1 hN j i hj hi h5
    rcases h2 with h2 | ⟨h2, _⟩ <;> omega

theorem c_impl_PathOf (t : Tr) (i : Int) : Fn Tryz.prog 33 [eTr t, .int .i64 i] (· = pfV t i) := by
  refine Fn.of free_pfV fun h => ?_
  refine enter (by kernel_rfl) e33 (by kernel_rfl) rfl fun hok => ?_
  simp only [r33, initEnv_2]
  have hn := c_impl_Trie_nodeAt_o t i
  have hpv : pfV t i = match trV t with | some K => if 0 ≤ i ∧ i ≤ ((nodesK K).length : Int) - 1 then .tup [.str ((nodesK K).getD i.toNat []), .bool true] else nP | none => nP := rfl
  have hna : naV t i = match trV t with | some K => if 0 ≤ i ∧ i ≤ ((nodesK K).length : Int) - 1 then .tup [.str ((nodesK K).getD i.toNat []), eS (some (nodesK K)), .bool true] else nF | none => nF := rfl
  have hfc := @free_cTr t
  rw [hna] at hn
  clear hna
  generalize pfV t i = R at hpv
  have hcb0 : H.cells (h ++ [some (.cells (cTr t))]) h.length = some (cTr t) := by rw [cells_h0]; rfl
  obtain ⟨⟨ss, sw⟩, ⟨es, ew⟩, lab⟩ := t
  (try (simp (disch := first | omega | (simp <;> omega) | fail) only [push_cast, ↓reduceIte, Nat.reduceEqDiff, Nat.reduceAdd, Nat.reduceMul, Nat.reduceSub, Nat.reduceLT, Int.reduceToNat]))
  cases hv : trV ⟨⟨ss, sw⟩, ⟨es, ew⟩, lab⟩ with
  | none =>
    rw [hv] at hn hpv
    simp only at hn hpv
    subst hpv
    refine hn.goL (.adr hcb0 hfc (.free free_int .nil)) fun x t' g hR hx how => ?_
    subst hR
    have hxn := ow_nF how
    subst hxn
    (try (simp (disch := first | omega | (simp <;> omega) | fail) only [push_cast, ↓reduceIte, Nat.reduceEqDiff, Nat.reduceAdd, Nat.reduceMul, Nat.reduceSub, Nat.reduceLT, Int.reduceToNat, nF, nP]))
    done
  | some K =>
    rw [hv] at hn hpv
    simp only at hn hpv
    generalize nodesK K = N at *
    by_cases hc : 0 ≤ i ∧ i ≤ (N.length : Int) - 1
    · rw [if_pos hc] at hn hpv
      subst hpv
      refine hn.goL (.adr hcb0 hfc (.free free_int .nil)) fun x t' g hR hx how => ?_
      subst hR
      obtain ⟨b, rfl, hb0, hcb⟩ := ow_na how
      (try (simp (disch := first | omega | (simp <;> omega) | fail) only [push_cast, ↓reduceIte, Nat.reduceEqDiff, Nat.reduceAdd, Nat.reduceMul, Nat.reduceSub, Nat.reduceLT, Int.reduceToNat]))
    · rw [if_neg hc] at hn hpv
      subst hpv
      refine hn.goL (.adr hcb0 hfc (.free free_int .nil)) fun x t' g hR hx how => ?_
      subst hR
      have hxn := ow_nF how
      subst hxn
      (try (simp (disch := first | omega | (simp <;> omega) | fail) only [push_cast, ↓reduceIte, Nat.reduceEqDiff, Nat.reduceAdd, Nat.reduceMul, Nat.reduceSub, Nat.reduceLT, Int.reduceToNat, nF, nP]))
      done

theorem c_spec_trOk (t : Tr) : Fn Tryz.prog 53 [eTr t] (· = okV t) := by
  refine Fn.froze fun h => ?_
  refine enter (by kernel_rfl) e53 (by kernel_rfl) rfl fun hok => ?_
  simp only [r53, initEnv_1]
  have hk := c_spec_trKeys t
  have hkk := fun K => @trV_ok t K
  have hov : okV t = match trV t with | some K => .tup [eS (some (nodesK K)), .bool true] | none => .tup [.nils, .bool false] := rfl
  generalize okV t = R at hov
  obtain ⟨⟨ss, sw⟩, ⟨es, ew⟩, lab⟩ := t
  (try (simp (disch := first | omega | (simp <;> omega) | fail) only [push_cast, ↓reduceIte, Nat.reduceEqDiff, Nat.reduceAdd, Nat.reduceMul, Nat.reduceSub, Nat.reduceLT, Int.reduceToNat]))
  refine hk.use fun x hx => ?_
  obtain ⟨o, b, rfl, ⟨rfl, hx⟩ | ⟨rfl, hx⟩⟩ := hx
  · rw [hx] at hov
    simp only at hov
    subst hov
    have hN := c_spec_trNodes o (hkk _ hx).2
    (try (simp (disch := first | omega | (simp <;> omega) | fail) only [push_cast, ↓reduceIte, Nat.reduceEqDiff, Nat.reduceAdd, Nat.reduceMul, Nat.reduceSub, Nat.reduceLT, Int.reduceToNat]))
    refine hN.call ?_
    have hy : ∀ hh : H, Vw hh h.length (.tup [eS (some (nodesK (lS o))), .bool true]) (.tup [eS (some (nodesK (lS o))), .bool true]) := fun hh => .free (free_tup (free_cons_ free_eS (free_cons_ free_bool free_nil_)))
    (try (simp (disch := first | omega | (simp <;> omega) | fail) only [push_cast, ↓reduceIte, Nat.reduceEqDiff, Nat.reduceAdd, Nat.reduceMul, Nat.reduceSub, Nat.reduceLT, Int.reduceToNat]))
    all_goals (try exact hy _)
  · rw [hx] at hov
    simp only at hov
    subst hov
    have hy : ∀ hh : H, Vw hh h.length (.tup [.nils, .bool false]) (.tup [.nils, .bool false]) := fun hh => .free (free_tup (free_cons_ free_nils (free_cons_ free_bool free_nil_)))
    (try (simp (disch := first | omega | (simp <;> omega) | fail) only [push_cast, ↓reduceIte, Nat.reduceEqDiff, Nat.reduceAdd, Nat.reduceMul, Nat.reduceSub, Nat.reduceLT, Int.reduceToNat]))
    all_goals (try exact hy _)

theorem c_spec_PathOf (t : Tr) (i : Int) : Fn Tryz.prog 34 [eTr t, .int .i64 i] (· = pfV t i) := by
  refine Fn.of free_pfV fun h => ?_
  refine enter (by kernel_rfl) e34 (by kernel_rfl) rfl fun hok => ?_
  simp only [r34, initEnv_2]
  have hk := c_spec_trOk t
  have hkk := fun K => @trV_ok t K
  have hpv : pfV t i = match trV t with | some K => if 0 ≤ i ∧ i ≤ ((nodesK K).length : Int) - 1 then .tup [.str ((nodesK K).getD i.toNat []), .bool true] else nP | none => nP := rfl
  have hov : okV t = match trV t with | some K => .tup [eS (some (nodesK K)), .bool true] | none => .tup [.nils, .bool false] := rfl
  rw [hov] at hk
  clear hov
  generalize pfV t i = R at hpv
  have hi64 := okV_1 hok
  cases hv : trV t with
  | none =>
    rw [hv] at hk hpv
    simp only at hk hpv
    subst hpv
    obtain ⟨⟨ss, sw⟩, ⟨es, ew⟩, lab⟩ := t
    (try (simp (disch := first | omega | (simp <;> omega) | fail) only [push_cast, ↓reduceIte, Nat.reduceEqDiff, Nat.reduceAdd, Nat.reduceMul, Nat.reduceSub, Nat.reduceLT, Int.reduceToNat]))
    refine hk.call ?_
    (try (simp (disch := first | omega | (simp <;> omega) | fail) only [push_cast, ↓reduceIte, Nat.reduceEqDiff, Nat.reduceAdd, Nat.reduceMul, Nat.reduceSub, Nat.reduceLT, Int.reduceToNat, nP]))
  | some K =>
    rw [hv] at hk hpv
    simp only at hk hpv
    have hKo := hkk K hv
    have hN1 := nodesK_cap hKo.2
    generalize nodesK K = N at *
    have hlN : lS (some N) = N := rfl
    have hlNl : (lS (some N)).length = N.length := rfl
    obtain ⟨⟨ss, sw⟩, ⟨es, ew⟩, lab⟩ := t
    (try (simp (disch := first | omega | (simp <;> omega) | fail) only [push_cast, ↓reduceIte, Nat.reduceEqDiff, Nat.reduceAdd, Nat.reduceMul, Nat.reduceSub, Nat.reduceLT, Int.reduceToNat]))
    refine hk.call ?_
    (try (simp (disch := first | omega | (simp <;> omega) | fail) only [push_cast, ↓reduceIte, Nat.reduceEqDiff, Nat.reduceAdd, Nat.reduceMul, Nat.reduceSub, Nat.reduceLT, Int.reduceToNat, hlN]))
    refine (c_spec_l1In i 0 ((N.length : Int) - 1)).call ?_
    by_cases hc : 0 ≤ i ∧ i ≤ (N.length : Int) - 1
    · rw [if_pos hc] at hpv
      rw [decide_eq_true hc.1, decide_eq_true hc.2]
      obtain ⟨j, rfl⟩ : ∃ j : Nat, i = (j : Int) := ⟨i.toNat, by omega⟩
      have hj : j < N.length := by omega
      rw [Int.toNat_natCast] at hpv
      obtain ⟨s, hs⟩ : ∃ s, s = N.getD j [] := ⟨_, rfl⟩
      have hgs : (N.map AV.str)[j]? = some (.str s) := by rw [hs]; exact get_S hj
      rw [← hs] at hpv
      subst hpv
      (try (simp (disch := first | omega | (simp <;> omega) | fail) only [push_cast, ↓reduceIte, Nat.reduceEqDiff, Nat.reduceAdd, Nat.reduceMul, Nat.reduceSub, Nat.reduceLT, Int.reduceToNat, hlN, hgs]))
    · rw [if_neg hc] at hpv
      subst hpv
      have hb : (decide (0 ≤ i) && decide (i ≤ (N.length : Int) - 1)) = false := by
        rw [Bool.and_eq_false_iff, decide_eq_false_iff_not, decide_eq_false_iff_not]
        omega
      rw [hb]
      (try (simp (disch := first | omega | (simp <;> omega) | fail) only [push_cast, ↓reduceIte, Nat.reduceEqDiff, Nat.reduceAdd, Nat.reduceMul, Nat.reduceSub, Nat.reduceLT, Int.reduceToNat, nP]))

theorem c_impl_LabelsAt (t : Tr) (i : Int) : Fn Tryz.prog 36 [eTr t, .int .i64 i] (· = lbV t i) := by
  refine Fn.of free_lbV fun h => ?_
  refine enter (by kernel_rfl) e36 (by kernel_rfl) rfl fun hok => ?_
  simp only [r36, initEnv_2]
  have hn := c_impl_Trie_nodeAt_o t i
  have hkk := fun K => @trV_ok t K
  have hpv : lbV t i = match trV t with | some K => if 0 ≤ i ∧ i ≤ ((nodesK K).length : Int) - 1 then .tup [.str (labsN (nodesK K) ((nodesK K).getD i.toNat [])), .bool true] else nP | none => nP := rfl
  have hna : naV t i = match trV t with | some K => if 0 ≤ i ∧ i ≤ ((nodesK K).length : Int) - 1 then .tup [.str ((nodesK K).getD i.toNat []), eS (some (nodesK K)), .bool true] else nF | none => nF := rfl
  have hfc := @free_cTr t
  rw [hna] at hn
  clear hna
  generalize lbV t i = R at hpv
  have hcb0 : H.cells (h ++ [some (.cells (cTr t))]) h.length = some (cTr t) := by rw [cells_h0]; rfl
  obtain ⟨⟨ss, sw⟩, ⟨es, ew⟩, lab⟩ := t
  (try (simp (disch := first | omega | (simp <;> omega) | fail) only [push_cast, ↓reduceIte, Nat.reduceEqDiff, Nat.reduceAdd, Nat.reduceMul, Nat.reduceSub, Nat.reduceLT, Int.reduceToNat]))
  cases hv : trV ⟨⟨ss, sw⟩, ⟨es, ew⟩, lab⟩ with
  | none =>
    rw [hv] at hn hpv
    simp only at hn hpv
    subst hpv
    refine hn.goL (.adr hcb0 hfc (.free free_int .nil)) fun x t' g hR hx how => ?_
    subst hR
    have hxn := ow_nF how
    subst hxn
    (try (simp (disch := first | omega | (simp <;> omega) | fail) only [push_cast, ↓reduceIte, Nat.reduceEqDiff, Nat.reduceAdd, Nat.reduceMul, Nat.reduceSub, Nat.reduceLT, Int.reduceToNat, nF, nP]))
    done
  | some K =>
    rw [hv] at hn hpv
    simp only at hn hpv
    have hKo := hkk K hv
    have hN12 := nodesK_len hKo.1
    have hN1 := nodesK_cap hKo.2
    generalize nodesK K = N at *
    by_cases hc : 0 ≤ i ∧ i ≤ (N.length : Int) - 1
    · rw [if_pos hc] at hn hpv
      subst hpv
      refine hn.goL (.adr hcb0 hfc (.free free_int .nil)) fun x t' g hR hx how => ?_
      subst hR
      obtain ⟨b, rfl, hb0, hcb⟩ := ow_na how
      obtain ⟨j, rfl⟩ : ∃ j : Nat, i = (j : Int) := ⟨i.toNat, by omega⟩
      have hj : j < N.length := by omega
      rw [Int.toNat_natCast]
      obtain ⟨s, hs⟩ : ∃ s, s = N.getD j [] := ⟨_, rfl⟩
      have hsl : s.length ≤ 12 := hN12 s (by rw [hs]; simp [hj])
      rw [← hs]
      clear hn how hcb0
      (try (simp (disch := first | omega | (simp <;> omega) | fail) only [push_cast, ↓reduceIte, Nat.reduceEqDiff, Nat.reduceAdd, Nat.reduceMul, Nat.reduceSub, Nat.reduceLT, Int.reduceToNat]))
      refine T_for N.length (fun k e h' => Pins e [(6, .str s), (9, .str (labsN (N.take k) s)), (20, .sl b 0 1 N.length N.length), (21, .int .i64 N.length), (22, .int .i64 k)] ∧ h' = g) ?_ ?_
      · (try (simp (disch := first | omega | (simp <;> omega) | fail) only [push_cast, ↓reduceIte, Nat.reduceEqDiff, Nat.reduceAdd, Nat.reduceMul, Nat.reduceSub, Nat.reduceLT, Int.reduceToNat]))
        all_goals (try simp [labsN, ch])
      rintro k e h' hk ⟨hp, rfl⟩
      refine T_pins hp fun e => ?_
      (try (simp (disch := first | omega | (simp <;> omega) | fail) only [push_cast, ↓reduceIte, Nat.reduceEqDiff, Nat.reduceAdd, Nat.reduceMul, Nat.reduceSub, Nat.reduceLT, Int.reduceToNat]))
      first | refine goC_split (fun hc => ?_) (fun hc => ?_) | refine cnd_split (fun hc => ?_) (fun hc => ?_)
      · (try (simp only [decide_eq_true_eq, decide_eq_false_iff_not, Bool.not_eq_true', Bool.not_eq_false', Bool.and_eq_true, Bool.or_eq_true, Int.not_lt, Int.not_le] at hc)); (try (simp (disch := first | omega | (simp <;> omega) | fail) only [push_cast, ↓reduceIte, Nat.reduceEqDiff, Nat.reduceAdd, Nat.reduceMul, Nat.reduceSub, Nat.reduceLT, Int.reduceToNat]))
        have hk2 : k < N.length := by omega
        have htk : N.take (k + 1) = N.take k ++ [N.getD k []] := by
          rw [List.take_add_one]
          simp [hk2]
        obtain ⟨y, hy⟩ : ∃ y, y = N.getD k [] := ⟨_, rfl⟩
        have hyl : y.length ≤ 12 := hN12 y (by rw [hy]; simp [hk2])
        rw [← hy] at htk
        have hnx : labsN (N.take (k + 1)) s = labsN (N.take k) s ++ if chB s y then [y.getLastD 0] else [] := by
          unfold labsN ch
          rw [htk, List.filter_append, List.map_append]
          cases hb : chB s y <;> simp [hb]
        have hgs : (N.map AV.str)[k]? = some (.str y) := by rw [hy]; exact get_S hk2
        have hll := @labs_len (N.take k) s
        rw [List.length_take] at hll
        have hia : iaddrA 1 (.sl b 0 1 N.length N.length) (.int .i64 (k : Int)) = some (.adr b k) := by
          rw [iaddrA_sl (by omega) (by omega)]
          simp
        generalize labsN (N.take k) s = A at *
        by_cases c1 : y.length = s.length + 1
        · have c1' : ((y.length : Int) = (s.length : Int) + 1) = True := by simp; omega
          (try (simp (disch := first | omega | (simp <;> omega) | fail) only [push_cast, ↓reduceIte, Nat.reduceEqDiff, Nat.reduceAdd, Nat.reduceMul, Nat.reduceSub, Nat.reduceLT, Int.reduceToNat, hia, hcb, hgs, c1']))
          refine (c_strings_HasPrefix y s (by omega) (by omega)).call ?_
          have hbg : (decide (s.length ≤ y.length) && decide (y.take s.length = s)) = chB s y := by
            unfold chB
            rw [decide_eq_true c1, decide_eq_true (show s.length ≤ y.length by omega)]
          rw [hbg]
          cases hcb2 : chB s y
          · rw [hcb2, if_neg (by simp), List.append_nil] at hnx
            (try (simp (disch := first | omega | (simp <;> omega) | fail) only [push_cast, ↓reduceIte, Nat.reduceEqDiff, Nat.reduceAdd, Nat.reduceMul, Nat.reduceSub, Nat.reduceLT, Int.reduceToNat, hnx]))
            all_goals (try omega)
          · rw [hcb2, if_pos rfl] at hnx
            have he := chB_eq hcb2
            have hd : List.take (y.length - s.length) (List.drop s.length y) = [y.getLastD 0] := by
              have h5 : List.drop s.length y = [y.getLastD 0] := by
                generalize y.getLastD 0 = z at he
                rw [he, List.drop_left]
              rw [h5, List.take_of_length_le]
              simp
              omega
            have hcat : abin .add (.str A) (.str [y.getLastD 0]) = some (.str (A ++ [y.getLastD 0])) := abin_s_add (by simp; omega)
            (try (simp (disch := first | omega | (simp <;> omega) | fail) only [push_cast, ↓reduceIte, Nat.reduceEqDiff, Nat.reduceAdd, Nat.reduceMul, Nat.reduceSub, Nat.reduceLT, Int.reduceToNat, hnx, hd, hcat]))
            all_goals (try omega)
        · have hcb2 : chB s y = false := by
            unfold chB
            rw [decide_eq_false c1]
            rfl
          have c1' : ((y.length : Int) = (s.length : Int) + 1) = False := by simp; omega
          rw [hcb2, if_neg (by simp), List.append_nil] at hnx
          (try (simp (disch := first | omega | (simp <;> omega) | fail) only [push_cast, ↓reduceIte, Nat.reduceEqDiff, Nat.reduceAdd, Nat.reduceMul, Nat.reduceSub, Nat.reduceLT, Int.reduceToNat, hia, hcb, hgs, c1', hnx]))
          all_goals (try omega)
      · (try (simp only [decide_eq_true_eq, decide_eq_false_iff_not, Bool.not_eq_true', Bool.not_eq_false', Bool.and_eq_true, Bool.or_eq_true, Int.not_lt, Int.not_le] at hc)); (try (simp (disch := first | omega | (simp <;> omega) | fail) only [push_cast, ↓reduceIte, Nat.reduceEqDiff, Nat.reduceAdd, Nat.reduceMul, Nat.reduceSub, Nat.reduceLT, Int.reduceToNat]))
        have hke : k = N.length := by omega
        subst hke
        rw [List.take_length]
        (try (simp (disch := first | omega | (simp <;> omega) | fail) only [push_cast, ↓reduceIte, Nat.reduceEqDiff, Nat.reduceAdd, Nat.reduceMul, Nat.reduceSub, Nat.reduceLT, Int.reduceToNat]))
    · rw [if_neg hc] at hn hpv
      subst hpv
      refine hn.goL (.adr hcb0 hfc (.free free_int .nil)) fun x t' g hR hx how => ?_
      subst hR
      have hxn := ow_nF how
      subst hxn
      (try (simp (disch := first | omega | (simp <;> omega) | fail) only [push_cast, ↓reduceIte, Nat.reduceEqDiff, Nat.reduceAdd, Nat.reduceMul, Nat.reduceSub, Nat.reduceLT, Int.reduceToNat, nF, nP]))
      done

end Go.Proofs.YtidhhiecgehgfaaGreat.M
