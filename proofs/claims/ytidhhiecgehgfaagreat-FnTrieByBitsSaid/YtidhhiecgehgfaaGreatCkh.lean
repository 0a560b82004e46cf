/-
  What the functions return.
-/
import Derived.Test.YtidhhiecgehgfaaGreatFkh
import Derived.Test.YtidhhiecgehgfaaGreatCkg
namespace Go.Proofs.YtidhhiecgehgfaaGreat.M
open Go Go.RowKit
set_option linter.unusedVariables false
set_option linter.unusedSimpArgs false
set_option maxRecDepth 4000

theorem c_laws_big (a b : Option (List UInt8)) (ha : (lU a).length ≤ 9223372036854775807) : Fn Tryz.prog 31 [eU a, eU b] (· = .bool (decide (1048576 < ((lU a).length : Int)) || decide (1048576 - ((lU a).length : Int) < ((lU b).length : Int)))) := by
  refine Fn.of free_bool fun h => ?_
  refine enter (by kernel_rfl) e31 (by kernel_rfl) rfl fun hok => ?_
  simp only [r31, initEnv_2]
  by_cases h1 : 1048576 < ((lU a).length : Int)
  · (try (simp (disch := first | omega | (simp <;> omega) | fail) only [push_cast, ↓reduceIte, Nat.reduceEqDiff, Nat.reduceAdd, Nat.reduceMul, Nat.reduceSub, Nat.reduceLT, Int.reduceToNat, h1]))
    all_goals (try simp [h1])
  · (try (simp (disch := first | omega | (simp <;> omega) | fail) only [push_cast, ↓reduceIte, Nat.reduceEqDiff, Nat.reduceAdd, Nat.reduceMul, Nat.reduceSub, Nat.reduceLT, Int.reduceToNat, h1]))
    (first | refine goC_split (fun hc => ?_) (fun hc => ?_) | refine cnd_split (fun hc => ?_) (fun hc => ?_)) <;> ((try (simp (disch := first | omega | (simp <;> omega) | fail) only [push_cast, ↓reduceIte, Nat.reduceEqDiff, Nat.reduceAdd, Nat.reduceMul, Nat.reduceSub, Nat.reduceLT, Int.reduceToNat]))) <;> (try rw [hc])

theorem c_impl_Trie_nodeAt_o (t : Tr) (i : Int) : FnO Tryz.prog 57 [.rad (cTr t) 0, .int .i64 i] (· = naV t i) := by
  intro h
  refine enter (by kernel_rfl) e57 (by kernel_rfl) rfl fun hok => ?_
  simp only [r57, initEnv_2]
  have hn := c_impl_Trie_nodes_o t
  have hkk := fun K => @trV_ok t K
  have hnv : noV t = match trV t with | some K => eS (some (nodesK K)) | none => .nils := rfl
  have hna : naV t i = match trV t with | some K => if 0 ≤ i ∧ i ≤ ((nodesK K).length : Int) - 1 then .tup [.str ((nodesK K).getD i.toNat []), eS (some (nodesK K)), .bool true] else nF | none => nF := rfl
  rw [hnv] at hn
  clear hnv
  generalize naV t i = R at hna
  obtain ⟨⟨ss, sw⟩, ⟨es, ew⟩, lab⟩ := t
  have hnF : ∀ hh : H, ∃ t', Ow hh [.tup [.str [], .nils, .bool false]] [t'] (fun c => h.length ≤ c) ∧ t' = nF := fun hh => ⟨_, nF_ow, rfl⟩
  cases hv : trV ⟨⟨ss, sw⟩, ⟨es, ew⟩, lab⟩ with
  | none =>
    rw [hv] at hn hna
    simp only at hn hna
    subst hna
    (try (simp (disch := first | omega | (simp <;> omega) | fail) only [push_cast, ↓reduceIte, Nat.reduceEqDiff, Nat.reduceAdd, Nat.reduceMul, Nat.reduceSub, Nat.reduceLT, Int.reduceToNat]))
    refine hn.go fun x t' g hR hx how => ?_
    subst hR
    have hxn : x = .nils := how.atomOf rfl
    subst hxn
    (try (simp (disch := first | omega | (simp <;> omega) | fail) only [push_cast, ↓reduceIte, Nat.reduceEqDiff, Nat.reduceAdd, Nat.reduceMul, Nat.reduceSub, Nat.reduceLT, Int.reduceToNat]))
    refine (c_impl_in i 0 (0 - 1)).call ?_
    have hb : (decide (0 ≤ i) && decide (i ≤ 0 - 1)) = false := by
      rw [Bool.and_eq_false_iff, decide_eq_false_iff_not, decide_eq_false_iff_not]
      omega
    rw [hb]
    (try (simp (disch := first | omega | (simp <;> omega) | fail) only [push_cast, ↓reduceIte, Nat.reduceEqDiff, Nat.reduceAdd, Nat.reduceMul, Nat.reduceSub, Nat.reduceLT, Int.reduceToNat]))
    all_goals (try exact hnF _)
  | some K =>
    rw [hv] at hn hna
    simp only at hn hna
    have hKo := hkk K hv
    have hN1 := nodesK_cap hKo.2
    generalize nodesK K = N at *
    (try (simp (disch := first | omega | (simp <;> omega) | fail) only [push_cast, ↓reduceIte, Nat.reduceEqDiff, Nat.reduceAdd, Nat.reduceMul, Nat.reduceSub, Nat.reduceLT, Int.reduceToNat]))
    refine hn.go fun x t' g hR hx how => ?_
    subst hR
    obtain ⟨b, rfl, hb0, hcb⟩ := ow_strs how
    (try (simp (disch := first | omega | (simp <;> omega) | fail) only [push_cast, ↓reduceIte, Nat.reduceEqDiff, Nat.reduceAdd, Nat.reduceMul, Nat.reduceSub, Nat.reduceLT, Int.reduceToNat]))
    refine (c_impl_in i 0 ((N.length : Int) - 1)).call ?_
    by_cases hc : 0 ≤ i ∧ i ≤ (N.length : Int) - 1
    · rw [if_pos hc] at hna
      rw [decide_eq_true hc.1, decide_eq_true hc.2]
      obtain ⟨j, rfl⟩ : ∃ j : Nat, i = (j : Int) := ⟨i.toNat, by omega⟩
      have hj : j < N.length := by omega
      rw [Int.toNat_natCast] at hna
      obtain ⟨s, hs⟩ : ∃ s, s = N.getD j [] := ⟨_, rfl⟩
      have hgs : (N.map AV.str)[j]? = some (.str s) := by rw [hs]; exact get_S hj
      rw [← hs] at hna
      have hia : iaddrA 1 (.sl b 0 1 N.length N.length) (.int .i64 (j : Int)) = some (.adr b j) := by
        rw [iaddrA_sl (by omega) (by omega)]
        simp
      have hfin : ∃ t', Ow g [.tup [.str s, .sl b 0 1 N.length N.length, .bool true]] [t'] (fun c => h.length ≤ c) ∧ t' = R := by
        rw [hna]
        refine ⟨_, (Ow.atom rfl ((ow_strs_of (G := fun c => c = b) hcb rfl).cons (F' := fun _ => False) (.atom rfl .nil) (fun c hc => ?_) (fun _ h => h.elim)) : Ow g [.str s, .sl b 0 1 N.length N.length, .bool true] [.str s, eS (some N), .bool true] (fun c => h.length ≤ c)).tupOf, rfl⟩
        rw [hc]
        exact hb0.1
      (try (simp (disch := first | omega | (simp <;> omega) | fail) only [push_cast, ↓reduceIte, Nat.reduceEqDiff, Nat.reduceAdd, Nat.reduceMul, Nat.reduceSub, Nat.reduceLT, Int.reduceToNat, hia, hcb, hgs]))
      all_goals (try exact hfin)
    · rw [if_neg hc] at hna
      subst hna
      have hb : (decide (0 ≤ i) && decide (i ≤ (N.length : Int) - 1)) = false := by
        rw [Bool.and_eq_false_iff, decide_eq_false_iff_not, decide_eq_false_iff_not]
        omega
      rw [hb]
      (try (simp (disch := first | omega | (simp <;> omega) | fail) only [push_cast, ↓reduceIte, Nat.reduceEqDiff, Nat.reduceAdd, Nat.reduceMul, Nat.reduceSub, Nat.reduceLT, Int.reduceToNat]))
      all_goals (try exact hnF _)

theorem c_impl_placedAt (o : Option (List Str)) (s : Str) : Fn Tryz.prog 58 [eS o, .str s] (· = chR (lS o) s) := by
  refine Fn.of free_chR fun h => ?_
  refine enter (by kernel_rfl) e58 (by kernel_rfl) rfl fun hok => ?_
  simp only [r58, initEnv_2]
  have hlo := fnd_lo (l := lS o) (s := s)
  have hhi := fnd_hi (l := lS o) (s := s)
  have hlen := ok_eS (okV_0 hok)
  have hch : chR (lS o) s = if fndI (lS o) s < 0 then zF else .tup [.int .i64 (fndI (lS o) s), .bool true] := rfl
  rw [hch]
  (try (simp (disch := first | omega | (simp <;> omega) | fail) only [push_cast, ↓reduceIte, Nat.reduceEqDiff, Nat.reduceAdd, Nat.reduceMul, Nat.reduceSub, Nat.reduceLT, Int.reduceToNat]))
  refine (c_slices_Index_string o s).call ?_
  generalize fndI (lS o) s = k at *
  by_cases hk0 : k < 0
  · rw [if_pos hk0]
    have hk1 : k = -1 := by omega
    subst hk1
    (try (simp (disch := first | omega | (simp <;> omega) | fail) only [push_cast, ↓reduceIte, Nat.reduceEqDiff, Nat.reduceAdd, Nat.reduceMul, Nat.reduceSub, Nat.reduceLT, Int.reduceToNat, zF]))
    done
  · rw [if_neg hk0]
    have hk1 : (0 ≤ k) = True := by simp; omega
    (try (simp (disch := first | omega | (simp <;> omega) | fail) only [push_cast, ↓reduceIte, Nat.reduceEqDiff, Nat.reduceAdd, Nat.reduceMul, Nat.reduceSub, Nat.reduceLT, Int.reduceToNat, hk1]))
    done

theorem c_impl_ParentOf (t : Tr) (i : Int) : Fn Tryz.prog 15 [eTr t, .int .i64 i] (· = paV t i) := by
  refine Fn.of (by unfold paV; split <;> (try split) <;> first | exact free_zF | exact free_tup (free_cons_ free_int (free_cons_ free_bool free_nil_))) fun h => ?_
  refine enter (by kernel_rfl) e15 (by kernel_rfl) rfl fun hok => ?_
  simp only [r15, initEnv_2]
  have hn := c_impl_Trie_nodeAt_o t i
  have hkk := fun K => @trV_ok t K
  have hpv : paV t i = match trV t with | some K => if 1 ≤ i ∧ i ≤ ((nodesK K).length : Int) - 1 then .tup [.int .i64 (fndI (nodesK K) (((nodesK K).getD i.toNat []).take (((nodesK K).getD i.toNat []).length - 1))), .bool true] else zF | none => zF := rfl
  have hna : naV t i = match trV t with | some K => if 0 ≤ i ∧ i ≤ ((nodesK K).length : Int) - 1 then .tup [.str ((nodesK K).getD i.toNat []), eS (some (nodesK K)), .bool true] else nF | none => nF := rfl
  have hfc := @free_cTr t
  rw [hna] at hn
  clear hna
  generalize paV t i = R at hpv
  have hcb0 : H.cells (h ++ [some (.cells (cTr t))]) h.length = some (cTr t) := by rw [cells_h0]; rfl
  obtain ⟨⟨ss, sw⟩, ⟨es, ew⟩, lab⟩ := t
  (try (simp (disch := first | omega | (simp <;> omega) | fail) only [push_cast, ↓reduceIte, Nat.reduceEqDiff, Nat.reduceAdd, Nat.reduceMul, Nat.reduceSub, Nat.reduceLT, Int.reduceToNat]))
  cases hv : trV ⟨⟨ss, sw⟩, ⟨es, ew⟩, lab⟩ with
  | none =>
    rw [hv] at hn hpv
    simp only at hn hpv
    subst hpv
    refine hn.goL (.adr hcb0 hfc (.free free_int .nil)) fun x t' g hR hx how => ?_
    subst hR
    have hxn := ow_nF how
    subst hxn
    (try (simp (disch := first | omega | (simp <;> omega) | fail) only [push_cast, ↓reduceIte, Nat.reduceEqDiff, Nat.reduceAdd, Nat.reduceMul, Nat.reduceSub, Nat.reduceLT, Int.reduceToNat, nF, zF]))
    done
  | some K =>
    rw [hv] at hn hpv
    simp only at hn hpv
    have hKo := hkk K hv
    have hN12 := nodesK_len hKo.1
    have hNn := @node_ne K hKo.1
    have hpar := fun s => @par_node K hKo.1 s
    generalize nodesK K = N at *
    by_cases hc : 0 ≤ i ∧ i ≤ (N.length : Int) - 1
    · rw [if_pos hc] at hn
      refine hn.goL (.adr hcb0 hfc (.free free_int .nil)) fun x t' g hR hx how => ?_
      subst hR
      obtain ⟨b, rfl, hb0, hcb⟩ := ow_na how
      by_cases hi0 : i = 0
      · subst hi0
        rw [if_neg (by omega)] at hpv
        subst hpv
        (try (simp (disch := first | omega | (simp <;> omega) | fail) only [push_cast, ↓reduceIte, Nat.reduceEqDiff, Nat.reduceAdd, Nat.reduceMul, Nat.reduceSub, Nat.reduceLT, Int.reduceToNat, zF]))
        done
      · rw [if_pos ⟨by omega, hc.2⟩] at hpv
        obtain ⟨j, rfl⟩ : ∃ j : Nat, i = (j : Int) := ⟨i.toNat, by omega⟩
        have hj : j < N.length := by omega
        rw [Int.toNat_natCast] at hpv ⊢
        obtain ⟨s, hs⟩ : ∃ s, s = N.getD j [] := ⟨_, rfl⟩
        have hsN : s ∈ N := by rw [hs]; simp [hj]
        have hsl : s.length ≤ 12 := hN12 s hsN
        have hsne : s ≠ [] := by rw [hs]; exact hNn (by omega) hj
        have hsp : 1 ≤ s.length := List.length_pos_iff.2 hsne
        have hpn := hpar s hsN hsne
        rw [← hs] at hpv ⊢
        have hch := chR_in hpn
        rw [← hch] at hpv
        subst hpv
        (try (simp (disch := first | omega | (simp <;> omega) | fail) only [push_cast, ↓reduceIte, Nat.reduceEqDiff, Nat.reduceAdd, Nat.reduceMul, Nat.reduceSub, Nat.reduceLT, Int.reduceToNat, hi0]))
        rw [Nat.sub_zero, List.drop_zero]
        refine (c_impl_placedAt (some N) _).lendL (.cons (vw_all (Nat.zero_le _) hcb (by simp) (one_map fun _ => rfl) (free_map_ fun _ => free_str)) (.free free_str .nil)) own_chR ?_
        have hlN : lS (some N) = N := rfl
        rw [hlN, hch]
        (try (simp (disch := first | omega | (simp <;> omega) | fail) only [push_cast, ↓reduceIte, Nat.reduceEqDiff, Nat.reduceAdd, Nat.reduceMul, Nat.reduceSub, Nat.reduceLT, Int.reduceToNat]))
    · rw [if_neg hc] at hn
      rw [if_neg (fun h5 => hc ⟨by omega, h5.2⟩)] at hpv
      subst hpv
      refine hn.goL (.adr hcb0 hfc (.free free_int .nil)) fun x t' g hR hx how => ?_
      subst hR
      have hxn := ow_nF how
      subst hxn
      (try (simp (disch := first | omega | (simp <;> omega) | fail) only [push_cast, ↓reduceIte, Nat.reduceEqDiff, Nat.reduceAdd, Nat.reduceMul, Nat.reduceSub, Nat.reduceLT, Int.reduceToNat, nF, zF]))
      done

theorem c_spec_trOk (t : Tr) : Fn Tryz.prog 53 [eTr t] (· = okV t) := by
  refine Fn.froze fun h => ?_
  refine enter (by kernel_rfl) e53 (by kernel_rfl) rfl fun hok => ?_
  simp only [r53, initEnv_1]
  have hk := c_spec_trKeys t
  have hkk := fun K => @trV_ok t K
  have hov : okV t = match trV t with | some K => .tup [eS (some (nodesK K)), .bool true] | none => .tup [.nils, .bool false] := rfl
  generalize okV t = R at hov
  obtain ⟨⟨ss, sw⟩, ⟨es, ew⟩, lab⟩ := t
  (try (simp (disch := first | omega | (simp <;> omega) | fail) only [push_cast, ↓reduceIte, Nat.reduceEqDiff, Nat.reduceAdd, Nat.reduceMul, Nat.reduceSub, Nat.reduceLT, Int.reduceToNat]))
  refine hk.use fun x hx => ?_
  obtain ⟨o, b, rfl, ⟨rfl, hx⟩ | ⟨rfl, hx⟩⟩ := hx
  · rw [hx] at hov
    simp only at hov
    subst hov
    have hN := c_spec_trNodes o (hkk _ hx).2
    (try (simp (disch := first | omega | (simp <;> omega) | fail) only [push_cast, ↓reduceIte, Nat.reduceEqDiff, Nat.reduceAdd, Nat.reduceMul, Nat.reduceSub, Nat.reduceLT, Int.reduceToNat]))
    refine hN.call ?_
    have hy : ∀ hh : H, Vw hh h.length (.tup [eS (some (nodesK (lS o))), .bool true]) (.tup [eS (some (nodesK (lS o))), .bool true]) := fun hh => .free (free_tup (free_cons_ free_eS (free_cons_ free_bool free_nil_)))
    (try (simp (disch := first | omega | (simp <;> omega) | fail) only [push_cast, ↓reduceIte, Nat.reduceEqDiff, Nat.reduceAdd, Nat.reduceMul, Nat.reduceSub, Nat.reduceLT, Int.reduceToNat]))
    all_goals (try exact hy _)
  · rw [hx] at hov
    simp only at hov
    subst hov
    have hy : ∀ hh : H, Vw hh h.length (.tup [.nils, .bool false]) (.tup [.nils, .bool false]) := fun hh => .free (free_tup (free_cons_ free_nils (free_cons_ free_bool free_nil_)))
    (try (simp (disch := first | omega | (simp <;> omega) | fail) only [push_cast, ↓reduceIte, Nat.reduceEqDiff, Nat.reduceAdd, Nat.reduceMul, Nat.reduceSub, Nat.reduceLT, Int.reduceToNat]))
    all_goals (try exact hy _)

theorem c_spec_trFind (o : Option (List Str)) (s : Str) : Fn Tryz.prog 55 [eS o, .str s] (· = .int .i64 (fndI (lS o) s)) := by
  refine Fn.of free_int fun h => ?_
  refine enter (by kernel_rfl) e55 (by kernel_rfl) rfl fun hok => ?_
  simp only [r55, initEnv_2]
  have hlen := ok_eS (okV_0 hok)
  (try (simp (disch := first | omega | (simp <;> omega) | fail) only [push_cast, ↓reduceIte, Nat.reduceEqDiff, Nat.reduceAdd, Nat.reduceMul, Nat.reduceSub, Nat.reduceLT, Int.reduceToNat]))
  refine T_for (lS o).length (fun i e h' => Pins e [(1, .str s), (7, eS o), (8, .int .i64 (lS o).length), (9, .int .i64 i)] ∧ h' = h ∧ s ∉ (lS o).take i) ?_ ?_
  · (try (simp (disch := first | omega | (simp <;> omega) | fail) only [push_cast, ↓reduceIte, Nat.reduceEqDiff, Nat.reduceAdd, Nat.reduceMul, Nat.reduceSub, Nat.reduceLT, Int.reduceToNat]))
    all_goals (try simp)
  rintro i e h' hi ⟨hp, rfl, ha⟩
  refine T_pins hp fun e => ?_
  (try (simp (disch := first | omega | (simp <;> omega) | fail) only [push_cast, ↓reduceIte, Nat.reduceEqDiff, Nat.reduceAdd, Nat.reduceMul, Nat.reduceSub, Nat.reduceLT, Int.reduceToNat]))
  first | refine goC_split (fun hc => ?_) (fun hc => ?_) | refine cnd_split (fun hc => ?_) (fun hc => ?_)
  · (try (simp only [decide_eq_true_eq, decide_eq_false_iff_not, Bool.not_eq_true', Bool.not_eq_false', Bool.and_eq_true, Bool.or_eq_true, Int.not_lt, Int.not_le] at hc)); (try (simp (disch := first | omega | (simp <;> omega) | fail) only [push_cast, ↓reduceIte, Nat.reduceEqDiff, Nat.reduceAdd, Nat.reduceMul, Nat.reduceSub, Nat.reduceLT, Int.reduceToNat]))
    have hi2 : i < (lS o).length := by omega
    have htk : (lS o).take (i + 1) = (lS o).take i ++ [(lS o).getD i []] := by
      rw [List.take_add_one]
      simp [hi2]
    by_cases hx : (lS o).getD i [] = s
    · rw [idx_at hi2 hx ha]
      (try (simp (disch := first | omega | (simp <;> omega) | fail) only [push_cast, ↓reduceIte, Nat.reduceEqDiff, Nat.reduceAdd, Nat.reduceMul, Nat.reduceSub, Nat.reduceLT, Int.reduceToNat, hx]))
    · have hn : s ∉ (lS o).take (i + 1) := by
        rw [htk, List.mem_append, List.mem_singleton]
        exact fun h5 => h5.elim ha fun h7 => hx h7.symm
      (try (simp (disch := first | omega | (simp <;> omega) | fail) only [push_cast, ↓reduceIte, Nat.reduceEqDiff, Nat.reduceAdd, Nat.reduceMul, Nat.reduceSub, Nat.reduceLT, Int.reduceToNat, hx]))
      all_goals (try exact hn)
  · (try (simp only [decide_eq_true_eq, decide_eq_false_iff_not, Bool.not_eq_true', Bool.not_eq_false', Bool.and_eq_true, Bool.or_eq_true, Int.not_lt, Int.not_le] at hc)); (try (simp (disch := first | omega | (simp <;> omega) | fail) only [push_cast, ↓reduceIte, Nat.reduceEqDiff, Nat.reduceAdd, Nat.reduceMul, Nat.reduceSub, Nat.reduceLT, Int.reduceToNat]))
    have hie : i = (lS o).length := by omega
    subst hie
    rw [List.take_length] at ha
    rw [fnd_no ha]
    (try (simp (disch := first | omega | (simp <;> omega) | fail) only [push_cast, ↓reduceIte, Nat.reduceEqDiff, Nat.reduceAdd, Nat.reduceMul, Nat.reduceSub, Nat.reduceLT, Int.reduceToNat]))

theorem c_spec_ParentOf (t : Tr) (i : Int) : Fn Tryz.prog 13 [eTr t, .int .i64 i] (· = paV t i) := by
  refine Fn.of (by unfold paV zF; split <;> (try split) <;> exact free_tup (free_cons_ free_int (free_cons_ free_bool free_nil_))) fun h => ?_
  refine enter (by kernel_rfl) e13 (by kernel_rfl) rfl fun hok => ?_
  simp only [r13, initEnv_2]
  have hk := c_spec_trOk t
  have hkk := fun K => @trV_ok t K
  have hpv : paV t i = match trV t with | some K => if 1 ≤ i ∧ i ≤ ((nodesK K).length : Int) - 1 then .tup [.int .i64 (fndI (nodesK K) (((nodesK K).getD i.toNat []).take (((nodesK K).getD i.toNat []).length - 1))), .bool true] else zF | none => zF := rfl
  have hov : okV t = match trV t with | some K => .tup [eS (some (nodesK K)), .bool true] | none => .tup [.nils, .bool false] := rfl
  rw [hov] at hk
  clear hov
  generalize paV t i = R at hpv
  have hi64 := okV_1 hok
  cases hv : trV t with
  | none =>
    rw [hv] at hk hpv
    simp only at hk hpv
    subst hpv
    obtain ⟨⟨ss, sw⟩, ⟨es, ew⟩, lab⟩ := t
    (try (simp (disch := first | omega | (simp <;> omega) | fail) only [push_cast, ↓reduceIte, Nat.reduceEqDiff, Nat.reduceAdd, Nat.reduceMul, Nat.reduceSub, Nat.reduceLT, Int.reduceToNat]))
    refine hk.call ?_
    (try (simp (disch := first | omega | (simp <;> omega) | fail) only [push_cast, ↓reduceIte, Nat.reduceEqDiff, Nat.reduceAdd, Nat.reduceMul, Nat.reduceSub, Nat.reduceLT, Int.reduceToNat, zF]))
  | some K =>
    rw [hv] at hk hpv
    simp only at hk hpv
    have hKo := hkk K hv
    have hN1 := nodesK_cap hKo.2
    have hN12 := nodesK_len hKo.1
    have hNn := @node_ne K hKo.1
    generalize nodesK K = N at *
    have hlN : lS (some N) = N := rfl
    have hlNl : (lS (some N)).length = N.length := rfl
    obtain ⟨⟨ss, sw⟩, ⟨es, ew⟩, lab⟩ := t
    (try (simp (disch := first | omega | (simp <;> omega) | fail) only [push_cast, ↓reduceIte, Nat.reduceEqDiff, Nat.reduceAdd, Nat.reduceMul, Nat.reduceSub, Nat.reduceLT, Int.reduceToNat]))
    refine hk.call ?_
    (try (simp (disch := first | omega | (simp <;> omega) | fail) only [push_cast, ↓reduceIte, Nat.reduceEqDiff, Nat.reduceAdd, Nat.reduceMul, Nat.reduceSub, Nat.reduceLT, Int.reduceToNat, hlN]))
    refine (c_spec_l1In i 1 ((N.length : Int) - 1)).call ?_
    by_cases hc : 1 ≤ i ∧ i ≤ (N.length : Int) - 1
    · rw [if_pos hc] at hpv
      rw [decide_eq_true hc.1, decide_eq_true hc.2]
      obtain ⟨j, rfl⟩ : ∃ j : Nat, i = (j : Int) := ⟨i.toNat, by omega⟩
      have hj : j < N.length := by omega
      rw [Int.toNat_natCast] at hpv
      obtain ⟨s, hs⟩ : ∃ s, s = N.getD j [] := ⟨_, rfl⟩
      have hsl : s.length ≤ 12 := hN12 s (by rw [hs]; simp [hj])
      have hsp : 1 ≤ s.length := List.length_pos_iff.2 (by rw [hs]; exact hNn (by omega) hj)
      have hgs : (N.map AV.str)[j]? = some (.str s) := by rw [hs]; exact get_S hj
      rw [← hs] at hpv
      subst hpv
      (try (simp (disch := first | omega | (simp <;> omega) | fail) only [push_cast, ↓reduceIte, Nat.reduceEqDiff, Nat.reduceAdd, Nat.reduceMul, Nat.reduceSub, Nat.reduceLT, Int.reduceToNat, hlN, hgs]))
      rw [Nat.sub_zero, List.drop_zero]
      refine (c_spec_trFind (some N) _).call ?_
      (try (simp (disch := first | omega | (simp <;> omega) | fail) only [push_cast, ↓reduceIte, Nat.reduceEqDiff, Nat.reduceAdd, Nat.reduceMul, Nat.reduceSub, Nat.reduceLT, Int.reduceToNat, hlN]))
    · rw [if_neg hc] at hpv
      subst hpv
      have hb : (decide (1 ≤ i) && decide (i ≤ (N.length : Int) - 1)) = false := by
        rw [Bool.and_eq_false_iff, decide_eq_false_iff_not, decide_eq_false_iff_not]
        omega
      rw [hb]
      (try (simp (disch := first | omega | (simp <;> omega) | fail) only [push_cast, ↓reduceIte, Nat.reduceEqDiff, Nat.reduceAdd, Nat.reduceMul, Nat.reduceSub, Nat.reduceLT, Int.reduceToNat, zF]))

def noD (t : Tr) : AV := match trV t with
  | some K => .tup [.int .i64 (nodesK K).length, .bool true]
  | none => zF
def haD (t : Tr) (s : Str) : AV := match trV t with
  | some K => .tup [.bool (decide (s ∈ K)), .bool true]
  | none => .tup [.bool false, .bool false]

theorem c_impl_NodesOf (t : Tr) : Fn Tryz.prog 42 [eTr t] (· = noD t) := by
  refine Fn.of (by unfold noD; split <;> first | exact free_zF | exact free_tup (free_cons_ free_int (free_cons_ free_bool free_nil_))) fun h => ?_
  refine enter (by kernel_rfl) e42 (by kernel_rfl) rfl fun hok => ?_
  simp only [r42, initEnv_1]
  have hn := c_impl_Trie_nodes_o t
  have hnv : noV t = match trV t with | some K => eS (some (nodesK K)) | none => .nils := rfl
  have hfv : noD t = match trV t with | some K => .tup [.int .i64 (nodesK K).length, .bool true] | none => zF := rfl
  have hfc := @free_cTr t
  rw [hnv] at hn
  clear hnv
  generalize noD t = R at hfv
  have hcb0 : H.cells (h ++ [some (.cells (cTr t))]) h.length = some (cTr t) := by rw [cells_h0]; rfl
  obtain ⟨⟨ss, sw⟩, ⟨es, ew⟩, lab⟩ := t
  (try (simp (disch := first | omega | (simp <;> omega) | fail) only [push_cast, ↓reduceIte, Nat.reduceEqDiff, Nat.reduceAdd, Nat.reduceMul, Nat.reduceSub, Nat.reduceLT, Int.reduceToNat]))
  cases hv : trV ⟨⟨ss, sw⟩, ⟨es, ew⟩, lab⟩ with
  | none =>
    rw [hv] at hn hfv
    simp only at hn hfv
    subst hfv
    refine hn.goL (.adr hcb0 hfc .nil) fun x t' g hR hx how => ?_
    subst hR
    have hxn : x = .nils := how.atomOf rfl
    subst hxn
    (try (simp (disch := first | omega | (simp <;> omega) | fail) only [push_cast, ↓reduceIte, Nat.reduceEqDiff, Nat.reduceAdd, Nat.reduceMul, Nat.reduceSub, Nat.reduceLT, Int.reduceToNat, zF]))
  | some K =>
    rw [hv] at hn hfv
    simp only at hn hfv
    generalize nodesK K = N at *
    subst hfv
    refine hn.goL (.adr hcb0 hfc .nil) fun x t' g hR hx how => ?_
    subst hR
    obtain ⟨b, rfl, hb0, hcb⟩ := ow_strs how
    (try (simp (disch := first | omega | (simp <;> omega) | fail) only [push_cast, ↓reduceIte, Nat.reduceEqDiff, Nat.reduceAdd, Nat.reduceMul, Nat.reduceSub, Nat.reduceLT, Int.reduceToNat]))

/-- The labels of a node's children, in their order. -/
def labsN (N : List Str) (s : Str) : Str := (ch N s).map (·.getLastD 0)
def nP : AV := .tup [.str [], .bool false]
def pfV (t : Tr) (i : Int) : AV := match trV t with
  | some K => if 0 ≤ i ∧ i ≤ ((nodesK K).length : Int) - 1 then .tup [.str ((nodesK K).getD i.toNat []), .bool true] else nP
  | none => nP
def lbV (t : Tr) (i : Int) : AV := match trV t with
  | some K => if 0 ≤ i ∧ i ≤ ((nodesK K).length : Int) - 1 then .tup [.str (labsN (nodesK K) ((nodesK K).getD i.toNat [])), .bool true] else nP
  | none => nP
theorem free_nP : Free nP := free_tup (free_cons_ free_str (free_cons_ free_bool free_nil_))
theorem free_pfV {t : Tr} {i : Int} : Free (pfV t i) := by
  unfold pfV
  split <;> (try split) <;> first | exact free_nP | exact free_tup (free_cons_ free_str (free_cons_ free_bool free_nil_))
theorem free_lbV {t : Tr} {i : Int} : Free (lbV t i) := by
  unfold lbV
  split <;> (try split) <;> first | exact free_nP | exact free_tup (free_cons_ free_str (free_cons_ free_bool free_nil_))
theorem labs_len {N : List Str} {s : Str} : (labsN N s).length ≤ N.length := by
  unfold labsN ch
  rw [List.length_map]
  exact List.length_filter_le _ _
theorem labs_get {N : List Str} {s : Str} {k : Nat} (hk : k < (labsN N s).length) : s ++ [(labsN N s).getD k 0] ∈ N := by
  unfold labsN at hk ⊢
  rw [List.length_map] at hk
  have h1 : (ch N s)[k] ∈ ch N s := List.getElem_mem hk
  have h2 := ch_mem.1 h1
  have h3 := chB_eq h2.2
  rw [List.getD_eq_getElem?_getD, List.getElem?_map, List.getElem?_eq_getElem hk]
  simp only [Option.map_some, Option.getD_some]
  rw [← h3]
  exact h2.1
theorem labs_up {N : List Str} (hN : N.Pairwise nlt) {s : Str} {k : Nat} (hk : k + 1 < (labsN N s).length) : ((labsN N s).getD k 0).toNat < ((labsN N s).getD (k + 1) 0).toNat := by
  unfold labsN at hk ⊢
  rw [List.length_map] at hk
  have hp : (ch N s).Pairwise nlt := List.Pairwise.filter _ hN
  have h1 := List.pairwise_iff_getElem.1 hp k (k + 1) (by omega) hk (by omega)
  have g1 := chB_eq (ch_mem.1 (List.getElem_mem (show k < (ch N s).length by omega))).2
  have g2 := chB_eq (ch_mem.1 (List.getElem_mem hk)).2
  rw [List.getD_eq_getElem?_getD, List.getD_eq_getElem?_getD, List.getElem?_map, List.getElem?_map, List.getElem?_eq_getElem hk, List.getElem?_eq_getElem (show k < (ch N s).length by omega)]
  simp only [Option.map_some, Option.getD_some]
  generalize (ch N s)[k] = a at *
  generalize (ch N s)[k + 1] = b at *
  generalize a.getLastD 0 = x at *
  generalize b.getLastD 0 = y at *
  subst g1 g2
  rcases h1 with h1 | ⟨_, h1⟩
  · simp at h1
  · rw [bl_app rfl, bl_irr, Bool.false_or, Bool.and_eq_true] at h1
    have h2 := h1.2
    rw [bl_cons, bl_nil] at h2
    simp only [Bool.and_false, Bool.or_false, decide_eq_true_eq] at h2
    exact UInt8.lt_iff_toNat_lt.1 h2
theorem fnd_nd {N : List Str} (hN : N.Pairwise nlt) {j : Nat} (hj : j < N.length) : fndI N (N.getD j []) = j := by
  refine idx_at hj rfl fun h => ?_
  obtain ⟨i, hi, h1⟩ := List.mem_iff_getElem.1 h
  rw [List.length_take] at hi
  rw [List.getElem_take, List.getD_eq_getElem?_getD, List.getElem?_eq_getElem hj] at h1
  simp only [Option.getD_some] at h1
  have h2 := List.pairwise_iff_getElem.1 hN i j (by omega) hj (by omega)
  rw [h1] at h2
  exact nlt_irr _ h2
/-- What is above comes before. -/
theorem fnd_up {N : List Str} (hN : N.Pairwise nlt) {i j : Nat} (hi : i < N.length) (hj : j < N.length) (h : (N.getD i []).length < (N.getD j []).length) : i < j := by
  rw [List.getD_eq_getElem?_getD, List.getD_eq_getElem?_getD, List.getElem?_eq_getElem hi, List.getElem?_eq_getElem hj] at h
  simp only [Option.getD_some] at h
  rcases Nat.lt_trichotomy i j with h5 | h5 | h5
  · exact h5
  · subst h5
    omega
  · have h2 := List.pairwise_iff_getElem.1 hN j i hj hi h5
    rcases h2 with h2 | ⟨h2, _⟩ <;> omega

theorem c_impl_PathOf (t : Tr) (i : Int) : Fn Tryz.prog 33 [eTr t, .int .i64 i] (· = pfV t i) := by
  refine Fn.of free_pfV fun h => ?_
  refine enter (by kernel_rfl) e33 (by kernel_rfl) rfl fun hok => ?_
  simp only [r33, initEnv_2]
  have hn := c_impl_Trie_nodeAt_o t i
  have hpv : pfV t i = match trV t with | some K => if 0 ≤ i ∧ i ≤ ((nodesK K).length : Int) - 1 then .tup [.str ((nodesK K).getD i.toNat []), .bool true] else nP | none => nP := rfl
  have hna : naV t i = match trV t with | some K => if 0 ≤ i ∧ i ≤ ((nodesK K).length : Int) - 1 then .tup [.str ((nodesK K).getD i.toNat []), eS (some (nodesK K)), .bool true] else nF | none => nF := rfl
  have hfc := @free_cTr t
  rw [hna] at hn
  clear hna
  generalize pfV t i = R at hpv
  have hcb0 : H.cells (h ++ [some (.cells (cTr t))]) h.length = some (cTr t) := by rw [cells_h0]; rfl
  obtain ⟨⟨ss, sw⟩, ⟨es, ew⟩, lab⟩ := t
  (try (simp (disch := first | omega | (simp <;> omega) | fail) only [push_cast, ↓reduceIte, Nat.reduceEqDiff, Nat.reduceAdd, Nat.reduceMul, Nat.reduceSub, Nat.reduceLT, Int.reduceToNat]))
  cases hv : trV ⟨⟨ss, sw⟩, ⟨es, ew⟩, lab⟩ with
  | none =>
    rw [hv] at hn hpv
    simp only at hn hpv
    subst hpv
    refine hn.goL (.adr hcb0 hfc (.free free_int .nil)) fun x t' g hR hx how => ?_
    subst hR
    have hxn := ow_nF how
    subst hxn
    (try (simp (disch := first | omega | (simp <;> omega) | fail) only [push_cast, ↓reduceIte, Nat.reduceEqDiff, Nat.reduceAdd, Nat.reduceMul, Nat.reduceSub, Nat.reduceLT, Int.reduceToNat, nF, nP]))
    done
  | some K =>
    rw [hv] at hn hpv
    simp only at hn hpv
    generalize nodesK K = N at *
    by_cases hc : 0 ≤ i ∧ i ≤ (N.length : Int) - 1
    · rw [if_pos hc] at hn hpv
      subst hpv
      refine hn.goL (.adr hcb0 hfc (.free free_int .nil)) fun x t' g hR hx how => ?_
      subst hR
      obtain ⟨b, rfl, hb0, hcb⟩ := ow_na how
      (try (simp (disch := first | omega | (simp <;> omega) | fail) only [push_cast, ↓reduceIte, Nat.reduceEqDiff, Nat.reduceAdd, Nat.reduceMul, Nat.reduceSub, Nat.reduceLT, Int.reduceToNat]))
    · rw [if_neg hc] at hn hpv
      subst hpv
      refine hn.goL (.adr hcb0 hfc (.free free_int .nil)) fun x t' g hR hx how => ?_
      subst hR
      have hxn := ow_nF how
      subst hxn
      (try (simp (disch := first | omega | (simp <;> omega) | fail) only [push_cast, ↓reduceIte, Nat.reduceEqDiff, Nat.reduceAdd, Nat.reduceMul, Nat.reduceSub, Nat.reduceLT, Int.reduceToNat, nF, nP]))
      done

theorem c_impl_BitAt (n m B i : Nat) (hk : okBt ⟨n, some (wordsN B m)⟩ = true) (hm : (((n : Int) + 15) / 16) = (m : Int)) (hi : i < n) (hn : n ≤ 4096) : Fn Tryz.prog 49 [eB ⟨n, some (wordsN B m)⟩, .int .i64 i] (· = .tup [.bool (B.testBit i), .bool true]) := by
  refine Fn.of (free_tup (free_cons_ free_bool (free_cons_ free_bool free_nil_))) fun h => ?_
  have hfr : ∀ x ∈ [AV.int .i64 (n : Int), eI (some (wordsN B m))], Free x := free_cons_ free_int (free_cons_ free_eI free_nil_)
  have hb := c_impl_IsBits ⟨n, some (wordsN B m)⟩
  rw [hk] at hb
  refine enter (by kernel_rfl) e49 (by kernel_rfl) rfl fun hok => ?_
  simp only [r49, initEnv_2]
  (try (simp (disch := first | omega | (simp <;> omega) | fail) only [push_cast, ↓reduceIte, Nat.reduceEqDiff, Nat.reduceAdd, Nat.reduceMul, Nat.reduceSub, Nat.reduceLT, Int.reduceToNat]))
  refine hb.call ?_
  (try (simp (disch := first | omega | (simp <;> omega) | fail) only [push_cast, ↓reduceIte, Nat.reduceEqDiff, Nat.reduceAdd, Nat.reduceMul, Nat.reduceSub, Nat.reduceLT, Int.reduceToNat]))
  refine (c_impl_in _ _ _).call ?_
  have h1 : (decide ((0 : Int) ≤ (i : Int)) && decide ((i : Int) ≤ (n : Int) - 1)) = true := by
    rw [Bool.and_eq_true, decide_eq_true_eq, decide_eq_true_eq]
    omega
  rw [h1]
  have b1 : H.cells (h ++ [some (.cells [.int .i64 n, eI (some (wordsN B m))])]) h.length = some [.int .i64 n, eI (some (wordsN B m))] := by rw [cells_h0]; rfl
  (try (simp (disch := first | omega | (simp <;> omega) | fail) only [push_cast, ↓reduceIte, Nat.reduceEqDiff, Nat.reduceAdd, Nat.reduceMul, Nat.reduceSub, Nat.reduceLT, Int.reduceToNat]))
  refine (c_impl_Bits_at (some (wordsN B m)) B m i [.int .i64 n, eI (some (wordsN B m))] 0 rfl rfl (by omega) (by omega)).lendL (.adr b1 hfr (.free free_int .nil)) own_bool ?_
  (try (simp (disch := first | omega | (simp <;> omega) | fail) only [push_cast, ↓reduceIte, Nat.reduceEqDiff, Nat.reduceAdd, Nat.reduceMul, Nat.reduceSub, Nat.reduceLT, Int.reduceToNat]))

theorem c_impl_FindNode (t : Tr) (s : Str) : Fn Tryz.prog 35 [eTr t, .str s] (· = fnV t s) := by
  refine Fn.of (by unfold fnV; split <;> first | exact free_zF | exact free_chR) fun h => ?_
  refine enter (by kernel_rfl) e35 (by kernel_rfl) rfl fun hok => ?_
  simp only [r35, initEnv_2]
  have hn := c_impl_Trie_nodes_o t
  have hnv : noV t = match trV t with | some K => eS (some (nodesK K)) | none => .nils := rfl
  have hfv : fnV t s = match trV t with | some K => chR (nodesK K) s | none => zF := rfl
  have hfc := @free_cTr t
  rw [hnv] at hn
  clear hnv
  generalize fnV t s = R at hfv
  have hcb0 : H.cells (h ++ [some (.cells (cTr t))]) h.length = some (cTr t) := by rw [cells_h0]; rfl
  obtain ⟨⟨ss, sw⟩, ⟨es, ew⟩, lab⟩ := t
  (try (simp (disch := first | omega | (simp <;> omega) | fail) only [push_cast, ↓reduceIte, Nat.reduceEqDiff, Nat.reduceAdd, Nat.reduceMul, Nat.reduceSub, Nat.reduceLT, Int.reduceToNat]))
  cases hv : trV ⟨⟨ss, sw⟩, ⟨es, ew⟩, lab⟩ with
  | none =>
    rw [hv] at hn hfv
    simp only at hn hfv
    subst hfv
    refine hn.goL (.adr hcb0 hfc .nil) fun x t' g hR hx how => ?_
    subst hR
    have hxn : x = .nils := how.atomOf rfl
    subst hxn
    (try (simp (disch := first | omega | (simp <;> omega) | fail) only [push_cast, ↓reduceIte, Nat.reduceEqDiff, Nat.reduceAdd, Nat.reduceMul, Nat.reduceSub, Nat.reduceLT, Int.reduceToNat]))
    refine (c_impl_placedAt none s).call ?_
    have hlN : lS none = [] := rfl
    rw [hlN, chR_nil]
    (try (simp (disch := first | omega | (simp <;> omega) | fail) only [push_cast, ↓reduceIte, Nat.reduceEqDiff, Nat.reduceAdd, Nat.reduceMul, Nat.reduceSub, Nat.reduceLT, Int.reduceToNat, zF]))
  | some K =>
    rw [hv] at hn hfv
    simp only at hn hfv
    generalize nodesK K = N at *
    subst hfv
    refine hn.goL (.adr hcb0 hfc .nil) fun x t' g hR hx how => ?_
    subst hR
    obtain ⟨b, rfl, hb0, hcb⟩ := ow_strs how
    (try (simp (disch := first | omega | (simp <;> omega) | fail) only [push_cast, ↓reduceIte, Nat.reduceEqDiff, Nat.reduceAdd, Nat.reduceMul, Nat.reduceSub, Nat.reduceLT, Int.reduceToNat]))
    refine (c_impl_placedAt (some N) s).lendL (.cons (vw_all (Nat.zero_le _) hcb (by simp) (one_map fun _ => rfl) (free_map_ fun _ => free_str)) (.free free_str .nil)) own_chR ?_
    have hlN : lS (some N) = N := rfl
    rw [hlN]
    have hch : chR N s = if fndI N s < 0 then zF else .tup [.int .i64 (fndI N s), .bool true] := rfl
    rw [hch]
    split
    · (try (simp (disch := first | omega | (simp <;> omega) | fail) only [push_cast, ↓reduceIte, Nat.reduceEqDiff, Nat.reduceAdd, Nat.reduceMul, Nat.reduceSub, Nat.reduceLT, Int.reduceToNat, zF]))
    · (try (simp (disch := first | omega | (simp <;> omega) | fail) only [push_cast, ↓reduceIte, Nat.reduceEqDiff, Nat.reduceAdd, Nat.reduceMul, Nat.reduceSub, Nat.reduceLT, Int.reduceToNat]))

theorem c_impl_TrieIndex (t : Tr) (s : Str) : Fn Tryz.prog 20 [eTr t, .str s] (· = txV t s) := by
  refine Fn.of (by unfold txV; split <;> (try split) <;> first | exact free_zF | exact free_tup (free_cons_ free_int (free_cons_ free_bool free_nil_))) fun h => ?_
  refine enter (by kernel_rfl) e20 (by kernel_rfl) rfl fun hok => ?_
  simp only [r20, initEnv_2]
  have hf := c_impl_FindNode t s
  have hkk := fun K => @trV_ok t K
  have hI := fun K => @trV_some t K
  have hfv : fnV t s = match trV t with | some K => chR (nodesK K) s | none => zF := rfl
  have hpv : txV t s = match trV t with | some K => if s ∈ K then .tup [.int .i64 (fndI ((nodesK K).filter fun x => decide (x ∈ K)) s), .bool true] else zF | none => zF := rfl
  have hfc := @free_cTr t
  rw [hfv] at hf
  clear hfv
  generalize txV t s = R at hpv
  have hcb0 : H.cells (h ++ [some (.cells (cTr t))]) h.length = some (cTr t) := by rw [cells_h0]; rfl
  cases hv : trV t with
  | none =>
    obtain ⟨⟨ss, sw⟩, ⟨es, ew⟩, lab⟩ := t
    rw [hv] at hf hpv
    simp only at hf hpv
    subst hpv
    (try (simp (disch := first | omega | (simp <;> omega) | fail) only [push_cast, ↓reduceIte, Nat.reduceEqDiff, Nat.reduceAdd, Nat.reduceMul, Nat.reduceSub, Nat.reduceLT, Int.reduceToNat]))
    refine hf.call ?_
    (try (simp (disch := first | omega | (simp <;> omega) | fail) only [push_cast, ↓reduceIte, Nat.reduceEqDiff, Nat.reduceAdd, Nat.reduceMul, Nat.reduceSub, Nat.reduceLT, Int.reduceToNat, zF]))
    done
  | some K =>
    rw [hv] at hf hpv
    simp only at hf hpv
    have hIK := hI K hv
    have hwk := okBt_num hIK.words
    have hsz := hIK.size
    by_cases hsN : s ∈ nodesK K
    · obtain ⟨i, f1, f2, f3, f4⟩ := fnd_in hsN
      have f5 := (tx_at hIK f1).2
      have f6 := cnt_ends hIK (Nat.le_of_lt f2)
      have f7 := fnd_filter (p := fun x => decide (x ∈ K)) f1
      have hN1 := nodesK_cap (hkk K hv).2
      rw [chR_in hsN, f1] at hf
      have hat : atB t.en i = (numW (lI t.en.words)).testBit i := rfl
      obtain ⟨⟨ss, sw⟩, ⟨es, ew⟩, lab⟩ := t
      obtain ⟨e1, e2, e3, e4⟩ := hwk
      simp only at hsz e1 e2 e3 e4 f5 f6 hat
      (try (simp (disch := first | omega | (simp <;> omega) | fail) only [push_cast, ↓reduceIte, Nat.reduceEqDiff, Nat.reduceAdd, Nat.reduceMul, Nat.reduceSub, Nat.reduceLT, Int.reduceToNat]))
      refine hf.call ?_
      (try (simp (disch := first | omega | (simp <;> omega) | fail) only [push_cast, ↓reduceIte, Nat.reduceEqDiff, Nat.reduceAdd, Nat.reduceMul, Nat.reduceSub, Nat.reduceLT, Int.reduceToNat]))
      refine (c_impl_Bits_at ew (numW (lI ew)) (lI ew).length i [.int .i64 ss, eI sw, .int .i64 es, eI ew, .str lab] 2 rfl e1 (by omega) (by omega)).lendL (.adr hcb0 hfc (.free free_int .nil)) own_bool ?_
      rw [← hat, f5]
      by_cases hsK : s ∈ K
      · rw [decide_eq_true hsK]
        rw [if_pos hsK] at hpv
        have f8 := f7 (by simp [hsK])
        have hcnt := c_impl_Bits_count ew (numW (lI ew)) (lI ew).length i [.int .i64 ss, eI sw, .int .i64 es, eI ew, .str lab] 2 rfl e1 (by omega) (by omega)
        have hcb : cntB (numW (lI ew)) i = (((nodesK K).take i).filter fun x => decide (x ∈ K)).length := f6
        rw [hcb] at hcnt
        rw [f8] at hpv
        subst hpv
        (try (simp (disch := first | omega | (simp <;> omega) | fail) only [push_cast, ↓reduceIte, Nat.reduceEqDiff, Nat.reduceAdd, Nat.reduceMul, Nat.reduceSub, Nat.reduceLT, Int.reduceToNat]))
        refine hcnt.lendL (.adr hcb0 hfc (.free free_int (.free free_int .nil))) own_int ?_
        (try (simp (disch := first | omega | (simp <;> omega) | fail) only [push_cast, ↓reduceIte, Nat.reduceEqDiff, Nat.reduceAdd, Nat.reduceMul, Nat.reduceSub, Nat.reduceLT, Int.reduceToNat]))
      · rw [decide_eq_false hsK]
        rw [if_neg hsK] at hpv
        subst hpv
        (try (simp (disch := first | omega | (simp <;> omega) | fail) only [push_cast, ↓reduceIte, Nat.reduceEqDiff, Nat.reduceAdd, Nat.reduceMul, Nat.reduceSub, Nat.reduceLT, Int.reduceToNat, zF]))
    · have hsK : s ∉ K := fun h5 => hsN (key_node hIK.keys h5)
      rw [if_neg hsK] at hpv
      subst hpv
      have hz : chR (nodesK K) s = zF := by
        unfold chR
        rw [if_pos (fnd_neg.2 hsN)]
      rw [hz] at hf
      obtain ⟨⟨ss, sw⟩, ⟨es, ew⟩, lab⟩ := t
      (try (simp (disch := first | omega | (simp <;> omega) | fail) only [push_cast, ↓reduceIte, Nat.reduceEqDiff, Nat.reduceAdd, Nat.reduceMul, Nat.reduceSub, Nat.reduceLT, Int.reduceToNat]))
      refine hf.call ?_
      (try (simp (disch := first | omega | (simp <;> omega) | fail) only [push_cast, ↓reduceIte, Nat.reduceEqDiff, Nat.reduceAdd, Nat.reduceMul, Nat.reduceSub, Nat.reduceLT, Int.reduceToNat, zF]))
      done

theorem cnt_list {B n : Nat} {l : List Bool} (hl : (List.range n).map B.testBit = l) {k : Nat} (hk : k ≤ n) : cntB B k = ((l.take k).filter id).length := by
  rw [← hl, ← List.map_take, List.take_range, Nat.min_eq_left hk, List.filter_map, List.length_map]
  rfl
theorem tru_len {N : List Str} : ∀ L : List Str, ((L.flatMap (shC N)).filter id).length = (L.flatMap (ch N)).length
  | [] => rfl
  | s :: L => by
    rw [List.flatMap_cons, List.flatMap_cons, List.filter_append, List.length_append, List.length_append, tru_len L]
    congr 1
    simp [shC]
/-- Where the bit of a node stands. -/
theorem shape_at {N : List Str} (hT : Tri N) {j a : Nat} (hj : j < N.length) (ha : a < N.length) (hc : chB (N.getD a []) (N.getD j []) = true) : (shapeL N).getD (j - 1 + a) false = true ∧ (((shapeL N).take (j - 1 + a)).filter id).length = j - 1 ∧ 1 ≤ j ∧ j - 1 + a < (shapeL N).length := by
  have hjN : N[j] ∈ N := List.getElem_mem hj
  have gj : N.getD j [] = N[j] := by simp [hj]
  have ga : N.getD a [] = N[a] := by simp [ha]
  rw [gj, ga] at hc
  have hm : N[j] ∈ ch N N[a] := ch_mem.2 ⟨hjN, hc⟩
  obtain ⟨q, hq, hqe⟩ := List.mem_iff_getElem.1 hm
  have hsplit : N = N.take a ++ N[a] :: N.drop (a + 1) := by
    conv => lhs; rw [← List.take_append_drop a N, List.drop_eq_getElem_cons ha]
  have hfm : ∀ {β : Type} (f : Str → List β), N.flatMap f = (N.take a).flatMap f ++ (f N[a] ++ (N.drop (a + 1)).flatMap f) := fun f => by
    conv => lhs; rw [hsplit]
    rw [List.flatMap_append, List.flatMap_cons]
  obtain ⟨C, hC⟩ : ∃ C, C = ((N.take a).flatMap (ch N)).length := ⟨_, rfl⟩
  have hlt : (N.take a).length = a := by rw [List.length_take]; omega
  have hbfs := hT.bfs
  have hjq : j = 1 + C + q := by
    have e1 : N[1 + C + q]? = some N[j] := by
      have hx : ([] :: N.flatMap (ch N))[1 + C + q]? = some N[j] := by
        rw [show 1 + C + q = (C + q) + 1 by omega, List.getElem?_cons_succ, hfm (ch N), List.getElem?_append_right (by omega), show C + q - ((N.take a).flatMap (ch N)).length = q by omega, List.getElem?_append_left hq, List.getElem?_eq_getElem hq, hqe]
      rw [← hbfs] at hx
      exact hx
    have hlt2 : 1 + C + q < N.length := by
      apply Classical.byContradiction
      intro h5
      rw [List.getElem?_eq_none (by omega)] at e1
      cases e1
    rw [List.getElem?_eq_getElem hlt2] at e1
    injection e1 with e1
    rcases Nat.lt_trichotomy j (1 + C + q) with h5 | h5 | h5
    · have := List.pairwise_iff_getElem.1 hT.pw j (1 + C + q) hj hlt2 h5
      rw [e1] at this
      exact absurd this (nlt_irr _)
    · exact h5
    · have := List.pairwise_iff_getElem.1 hT.pw (1 + C + q) j hlt2 hj h5
      rw [e1] at this
      exact absurd this (nlt_irr _)
  have hsh : shapeL N = (N.take a).flatMap (shC N) ++ (shC N N[a] ++ (N.drop (a + 1)).flatMap (shC N)) := hfm (shC N)
  have hFl : ((N.take a).flatMap (shC N)).length = C + a := by rw [shape_len, hlt, hC]
  have hFt := tru_len (N := N) (N.take a)
  rw [← hC] at hFt
  have hshc : shC N N[a] = List.replicate (ch N N[a]).length true ++ [false] := rfl
  have hp : j - 1 + a = C + a + q := by omega
  rw [hp]
  generalize (N.take a).flatMap (shC N) = F at *
  generalize (N.drop (a + 1)).flatMap (shC N) = R at *
  clear hqe hm hjN hbfs hfm
  generalize (ch N N[a]).length = d at *
  rw [hsh, hshc]
  refine ⟨?_, ?_, by omega, ?_⟩
  · rw [List.getD_eq_getElem?_getD, List.getElem?_append_right (by omega), show C + a + q - F.length = q by omega, List.append_assoc, List.getElem?_append_left (by simpa using hq), List.getElem?_replicate, if_pos hq]
    rfl
  · rw [List.take_append, List.filter_append, List.length_append, List.take_of_length_le (by omega), hFt, show C + a + q - F.length = q by omega, List.append_assoc, List.take_append_of_le_length (by simp; omega), List.take_replicate, Nat.min_eq_left (by omega)]
    simp
    omega
  · simp
    omega
structure BitF (t : Tr) (j n1 m1 B1 n2 m2 B2 p a : Nat) (s : Str) (K : List Str) : Prop where
  sh : t.sh = ⟨(n1 : Int), some (wordsN B1 m1)⟩
  en : t.en = ⟨(n2 : Int), some (wordsN B2 m2)⟩
  k1 : okBt ⟨(n1 : Int), some (wordsN B1 m1)⟩ = true
  k2 : okBt ⟨(n2 : Int), some (wordsN B2 m2)⟩ = true
  hm1 : (((n1 : Int) + 15) / 16) = (m1 : Int)
  hm2 : (((n2 : Int) + 15) / 16) = (m2 : Int)
  l1 : 1 ≤ n1 ∧ n1 ≤ 4096
  l2 : 1 ≤ n2 ∧ n2 ≤ 4096
  hp : p < n1
  hb : B1.testBit p = true
  hc : (cntB B1 p : Int) = (j : Int) - 1
  hpa : (p : Int) - (cntB B1 p : Int) = (a : Int)
  par : paV t j = .tup [.int .i64 a, .bool true]
  path : pfV t j = .tup [.str s, .bool true]
  hj : j < n2
  sz : n1 = 2 * n2 - 1
  lab : t.lab.length = n2 - 1
  end_ : B2.testBit j = decide (s ∈ K)
  idx : txV t s = if s ∈ K then .tup [.int .i64 (cntB B2 j), .bool true] else zF
  nodes : noD t = .tup [.int .i64 n2, .bool true]
  len : n2 = (nodesK K).length
  get : (nodesK K).getD j [] = s
  num : numW (lI t.en.words) = B2
theorem words_some {b : Bt} (h : okBt b = true) (h1 : 1 ≤ b.size) : ∃ n m B : Nat, b = ⟨(n : Int), some (wordsN B m)⟩ ∧ (((n : Int) + 15) / 16) = (m : Int) ∧ 1 ≤ n ∧ n ≤ 4096 ∧ B = numW (lI b.words) := by
  obtain ⟨w1, w2, w3, w4⟩ := okBt_num h
  obtain ⟨sz, ws⟩ := b
  simp only at w1 w2 w3 w4 h1
  refine ⟨sz.toNat, (lI ws).length, numW (lI ws), ?_, by omega, by omega, by omega, rfl⟩
  rw [← w1, Int.toNat_of_nonneg w2]
  cases ws with
  | none =>
    have : ((lI (none : Option (List Int))).length : Int) = 0 := rfl
    omega
  | some l => rfl
theorem bits_one {t : Tr} {K : List Str} (h : trV t = some K) {j : Nat} (h1 : 1 ≤ j) (hj : j < (nodesK K).length) : ∃ n1 m1 B1 n2 m2 B2 p a s, BitF t j n1 m1 B1 n2 m2 B2 p a s K := by
  have hI := trV_some h
  have hK := trV_ok h
  have hT := nodesK_tri hK.1
  have h0 := okT0_in hI.ok0
  have hsz := hI.size
  obtain ⟨n1, m1, B1, e1, f1, f2, f3, f4⟩ := words_some h0.1 (by omega)
  obtain ⟨n2, m2, B2, g1, g2, g3, g4, g5⟩ := words_some h0.2.1 (by omega)
  have hn2 : n2 = (nodesK K).length := by rw [g1] at hsz; simp only at hsz; omega
  have hn1 : n1 = 2 * n2 - 1 := by
    have := h0.2.2.1
    rw [e1, g1] at this
    simp only at this
    omega
  have hsN : (nodesK K).getD j [] ∈ nodesK K := by simp [hj]
  have hne := node_ne hK.1 h1 hj
  have hpN := par_node hK.1 hsN hne
  obtain ⟨a, a1, a2, a3, _⟩ := fnd_in hpN
  obtain ⟨s, hs⟩ : ∃ s, s = (nodesK K).getD j [] := ⟨_, rfl⟩
  rw [← hs] at hsN hne hpN a1 a3
  have hfs : fndI (nodesK K) s = j := by rw [hs]; exact fnd_nd hT.pw hj
  have hch : chB ((nodesK K).getD a []) ((nodesK K).getD j []) = true := by
    rw [a3, ← hs, ← List.dropLast_eq_take]
    exact chB_drop hne
  obtain ⟨p1, p2, p3, p4⟩ := shape_at hT hj a2 hch
  have hsh : (List.range n1).map B1.testBit = shapeL (nodesK K) := by
    have h5 := hI.shape
    have h6 : t.sh.size.toNat = n1 := by rw [e1]; simp
    unfold btL at h5
    rw [h6] at h5
    rw [← h5]
    exact List.map_congr_left fun i _ => by unfold atB; rw [f4]
  have hl : (shapeL (nodesK K)).length = n1 := by rw [← hsh]; simp
  have hat := hI.at_ hj
  have hce := cnt_ends hI (Nat.le_of_lt hj)
  have hB2 : ((List.range j).filter (numW (lI t.en.words)).testBit).length = cntB B2 j := by rw [g5]; rfl
  have hff := fun hsK : s ∈ K => fnd_filter (p := fun x => decide (x ∈ K)) hfs (decide_eq_true hsK)
  have hcnt := cnt_list hsh (k := j - 1 + a) (by omega)
  rw [p2] at hcnt
  refine ⟨n1, m1, B1, n2, m2, B2, j - 1 + a, a, s, ⟨e1, g1, e1 ▸ h0.1, g1 ▸ h0.2.1, f1, g2, ⟨f2, f3⟩, ⟨g3, g4⟩, by omega, ?_, by omega, by omega, ?_, ?_, by omega, hn1, ?_, ?_, ?_, ?_, hn2, hs.symm, g5.symm⟩⟩
  · rw [← hsh, List.getD_eq_getElem?_getD, List.getElem?_map, List.getElem?_range (by omega)] at p1
    exact p1
  · unfold paV
    rw [h]
    simp only
    rw [if_pos ⟨by omega, by omega⟩, Int.toNat_natCast, ← hs, a1]
  · unfold pfV
    rw [h]
    simp only
    rw [if_pos ⟨by omega, by omega⟩, Int.toNat_natCast, ← hs]
  · have := h0.2.2.2
    rw [g1] at this
    simp only at this
    omega
  · rw [hs, ← hat, g5]
    rfl
  · unfold txV
    rw [h]
    simp only
    split
    · rename_i hsK
      rw [hff hsK, ← hce, hB2]
    · rfl
  · unfold noD
    rw [h]
    simp only
    rw [hn2]

def decV (l : Str) : Nat := l.foldl (fun a c => 10 * a + (c.toNat - 48)) 0
theorem decV_dec : ∀ n : Nat, decV (Lib.decDigits n) = n := fun n => by
  induction n using Nat.strongRecOn with
  | _ n ih =>
    rw [dec_rec]
    by_cases hn : n < 10
    · rw [if_pos hn]
      simp [decV]
      omega
    · rw [if_neg hn]
      unfold decV at ih ⊢
      rw [List.foldl_append, ih (n / 10) (by omega)]
      simp
      omega

def beforeT (s : Str) : Str := s.takeWhile fun c => c != 126
def openOk (s t : Str) : Bool := plainV t && decide (sealT t = s)
def openV (s : Str) : AV := if openOk s (beforeT s) then .tup [.str (beforeT s), .bool true] else .tup [.str [], .bool false]
theorem free_openV {s : Str} : Free (openV s) := by
  unfold openV
  split <;> exact free_tup (free_cons_ free_str (free_cons_ free_bool free_nil_))
theorem plain_no126 {t : Str} (h : plain t = true) : ∀ c ∈ t, (c != 126) = true := by
  intro c hc
  have := List.all_eq_true.1 h c hc
  simp only [okCh, Bool.and_eq_true, decide_eq_true_eq] at this
  simp only [bne_iff_ne, ne_eq]
  intro he
  subst he
  simp at this
theorem plainV_plain {t : Str} (h : plainV t = true) : plain t = true := by
  simp only [plainV, Bool.and_eq_true] at h
  exact h.1
theorem before_app {t r : Str} (h : ∀ c ∈ t, (c != 126) = true) : beforeT (t ++ 126 :: r) = t := by
  unfold beforeT
  rw [List.takeWhile_append_of_pos h]
  simp
theorem sealT_len (t : Str) : t.length < (sealT t).length := by
  unfold sealT
  simp
theorem dec_no126 {n : Nat} : (126 : UInt8) ∉ Lib.decDigits n := fun h => by
  have := dec_plain n 126 h
  simp at this
theorem before_no : ∀ {s : Str}, (126 : UInt8) ∉ s → beforeT s = s
  | [], _ => rfl
  | c :: s, h => by
    simp only [List.mem_cons, not_or] at h
    have ih := before_no h.2
    have hc : (c != 126) = true := by simpa using Ne.symm h.1
    unfold beforeT at ih ⊢
    rw [List.takeWhile_cons, if_pos hc, ih]
theorem open_none {s : Str} (h : (126 : UInt8) ∉ s) : openOk s (beforeT s) = false := by
  rw [before_no h]
  unfold openOk
  have := sealT_len s
  have hne : sealT s ≠ s := fun he => by
    rw [he] at this
    omega
  simp [hne]
theorem split_at {s : Str} {a : Nat} (ha : a < s.length) (hc : s.getD a 0 = 126) : s = s.take a ++ 126 :: s.drop (a + 1) := by
  have h1 : s[a] = 126 := by simpa [ha] using hc
  conv => lhs; rw [← List.take_append_drop a s, List.drop_eq_getElem_cons ha, h1]
/-- The last mark serves as well as the first. -/
theorem open_last {s : Str} {a : Nat} (ha : a < s.length) (hc : s.getD a 0 = 126) (hd : (126 : UInt8) ∉ s.drop (a + 1)) : openOk s (s.take a) = openOk s (beforeT s) ∧ (openOk s (s.take a) = true → s.take a = beforeT s) := by
  have hs := split_at ha hc
  by_cases hp : plainV (s.take a) = true
  · have hb : beforeT s = s.take a := by
      conv => lhs; rw [hs]
      exact before_app (plain_no126 (plainV_plain hp))
    rw [hb]
    exact ⟨rfl, fun _ => rfl⟩
  · have h1 : openOk s (s.take a) = false := by
      unfold openOk
      rw [Bool.not_eq_true] at hp
      rw [hp]
      rfl
    refine ⟨?_, fun h => by rw [h1] at h; cases h⟩
    rw [h1]
    cases h2 : openOk s (beforeT s) with
    | false => rfl
    | true =>
      exfalso
      simp only [openOk, Bool.and_eq_true, decide_eq_true_eq] at h2
      obtain ⟨p1, p2⟩ := h2
      generalize beforeT s = t at p1 p2
      unfold sealT at p2
      have hget : (t ++ 126 :: Lib.decDigits (chk t t.length).toNat)[a]? = some 126 := by
        rw [p2]
        simpa [ha] using hc
      rcases Nat.lt_trichotomy a t.length with h5 | h5 | h5
      · rw [List.getElem?_append_left h5] at hget
        have := plain_no126 (plainV_plain p1) 126 (List.mem_of_getElem? hget)
        simp at this
      · subst h5
        refine hp ?_
        rw [← p2, List.take_left]
        exact p1
      · rw [List.getElem?_append_right (by omega), show a - t.length = (a - t.length - 1) + 1 by omega, List.getElem?_cons_succ] at hget
        exact dec_no126 (List.mem_of_getElem? hget)

theorem dec_inj {n m : Nat} (h : Lib.decDigits n = Lib.decDigits m) : n = m := by
  rw [← decV_dec n, h, decV_dec]
/-- The weighted sum. -/
def wsum (s : Str) : Nat → Int
  | 0 => 0
  | i + 1 => wsum s i + ((i : Int) + 1) * ((s.getD i 0).toNat : Int)
theorem chk_wsum (s : Str) : ∀ i, chk s i = wsum s i % 65521
  | 0 => by simp [chk, wsum]
  | i + 1 => by
    unfold chk wsum
    rw [chk_wsum s i, Int.emod_add_emod]
theorem getD_set {s : Str} {i j : Nat} {o : UInt8} (hi : i < s.length) : (s.set i o).getD j 0 = if j = i then o else s.getD j 0 := by
  simp only [List.getD_eq_getElem?_getD, List.getElem?_set]
  by_cases hj : i = j
  · subst hj
    simp [hi]
  · rw [if_neg hj, if_neg (Ne.symm hj)]
theorem wsum_set {s : Str} {i : Nat} {o : UInt8} (hi : i < s.length) : ∀ n, wsum (s.set i o) n = wsum s n + if i < n then ((i : Int) + 1) * ((o.toNat : Int) - ((s.getD i 0).toNat : Int)) else 0
  | 0 => by simp [wsum]
  | n + 1 => by
    unfold wsum
    rw [wsum_set hi n, getD_set hi]
    by_cases hn : n = i
    · subst hn
      rw [if_neg (by omega), if_pos rfl, if_pos (by omega), Int.mul_sub]
      omega
    · rw [if_neg hn]
      by_cases h5 : i < n
      · rw [if_pos h5, if_pos (show i < n + 1 by omega)]
        omega
      · simp only [if_neg h5, if_neg (show ¬ i < n + 1 by omega), Int.add_zero]
theorem cop : ∀ d, d < 94 → d ≠ 0 → Nat.gcd 65521 d = 1 := by decide
theorem chk_ne {s : Str} {i : Nat} {o : UInt8} (hi : i < s.length) (hl : s.length ≤ 6000) (h1 : okCh (s.getD i 0) = true) (h2 : okCh o = true) (hne : o ≠ s.getD i 0) : chk (s.set i o) s.length ≠ chk s s.length := by
  simp only [okCh, Bool.and_eq_true, decide_eq_true_eq] at h1 h2
  rw [chk_wsum, chk_wsum, wsum_set hi, if_pos hi]
  generalize wsum s s.length = t
  intro h
  have hne2 : o.toNat ≠ (s.getD i 0).toNat := fun he => hne (UInt8.toNat_inj.1 he)
  generalize (s.getD i 0).toNat = a at h1 hne2 h
  generalize o.toNat = b at h2 hne2 h
  have hd : (65521 : Int) ∣ ((i : Int) + 1) * ((b : Int) - (a : Int)) := by
    have := Int.emod_emod_of_dvd (t + ((i : Int) + 1) * ((b : Int) - (a : Int))) (Int.dvd_refl 65521)
    have h3 : (t + ((i : Int) + 1) * ((b : Int) - (a : Int)) - t) % 65521 = 0 := by
      rw [Int.sub_emod, h, Int.sub_self]
      rfl
    rw [show t + ((i : Int) + 1) * ((b : Int) - (a : Int)) - t = ((i : Int) + 1) * ((b : Int) - (a : Int)) by omega] at h3
    exact Int.dvd_of_emod_eq_zero h3
  have hn : 65521 ∣ (i + 1) * ((b : Int) - (a : Int)).natAbs := by
    have := Int.natAbs_dvd_natAbs.2 hd
    rw [Int.natAbs_mul] at this
    have e : ((i : Int) + 1).natAbs = i + 1 := by omega
    rw [e] at this
    exact this
  have hc := cop ((b : Int) - (a : Int)).natAbs (by omega) (by omega)
  have := Nat.Coprime.dvd_of_dvd_mul_right hc hn
  have := Nat.le_of_dvd (by omega) this
  omega
theorem open_sealed {s : Str} (hp : plainV s = true) : openOk (sealT s) (beforeT (sealT s)) = true ∧ beforeT (sealT s) = s := by
  have hb : beforeT (sealT s) = s := by
    unfold sealT
    exact before_app (plain_no126 (plainV_plain hp))
  rw [hb]
  unfold openOk
  simp [hp]
theorem seal_damage {s : Str} {i : Nat} {o : UInt8} (hp : plainV s = true) (hi : i < (sealT s).length) : openOk ((sealT s).set i o) (beforeT ((sealT s).set i o)) = decide (o = (sealT s).getD i 0) := by
  by_cases ho : o = (sealT s).getD i 0
  · have : (sealT s).set i o = sealT s := by
      rw [ho]
      refine List.ext_getElem? fun j => ?_
      rw [List.getElem?_set]
      by_cases hj : i = j
      · subst hj
        simp [hi]
      · rw [if_neg hj]
    rw [this, (open_sealed hp).1]
    simp [ho]
  · rw [decide_eq_false ho]
    have hpl := plainV_plain hp
    have hl : s.length ≤ 6000 := by
      simp only [plainV, Bool.and_eq_true, decide_eq_true_eq] at hp
      omega
    have h126 := plain_no126 hpl
    cases hq : openOk ((sealT s).set i o) (beforeT ((sealT s).set i o)) with
    | false => rfl
    | true =>
      exfalso
      have hq2 := hq
      simp only [openOk, Bool.and_eq_true, decide_eq_true_eq] at hq2
      obtain ⟨q1, q2⟩ := hq2
      rcases Nat.lt_trichotomy i s.length with h5 | h5 | h5
      · have hset : (sealT s).set i o = s.set i o ++ 126 :: Lib.decDigits (chk s s.length).toNat := by
          unfold sealT
          rw [List.set_append_left _ _ h5]
        have hgi : (sealT s).getD i 0 = s.getD i 0 := by
          unfold sealT
          simp [List.getElem?_append_left h5]
        rw [hgi] at ho
        by_cases ho6 : o = 126
        · have hcut : s.set i o = s.take i ++ 126 :: s.drop (i + 1) := by
            rw [List.set_eq_take_append_cons_drop, if_pos h5, ho6]
          have hb : beforeT ((sealT s).set i o) = s.take i := by
            rw [hset, hcut, List.append_assoc]
            exact before_app fun c hc => h126 c (List.mem_of_mem_take hc)
          rw [hb, hset, hcut] at q2
          unfold sealT at q2
          rw [List.append_assoc] at q2
          have q3 := List.append_cancel_left q2
          simp only [List.cons_append, List.cons.injEq, true_and] at q3
          have : (126 : UInt8) ∈ Lib.decDigits (chk (s.take i) (s.take i).length).toNat := by
            rw [q3]
            simp
          exact dec_no126 this
        · have hall : ∀ c ∈ s.set i o, (c != 126) = true := by
            intro c hc
            rcases List.mem_or_eq_of_mem_set hc with h6 | h6
            · exact h126 c h6
            · subst h6
              simpa using ho6
          have hb : beforeT ((sealT s).set i o) = s.set i o := by
            rw [hset]
            exact before_app hall
          rw [hb, hset] at q2
          rw [hb] at q1
          unfold sealT at q2
          have q3 := List.append_cancel_left q2
          simp only [List.cons.injEq, true_and] at q3
          have q4 := dec_inj q3
          rw [List.length_set] at q4
          obtain ⟨a1, _⟩ := chk_bd (s.set i o) s.length
          obtain ⟨b1, _⟩ := chk_bd s s.length
          refine chk_ne h5 hl (List.all_eq_true.1 hpl _ (by simp [h5])) (List.all_eq_true.1 (plainV_plain q1) o ?_) ho (by omega)
          exact List.mem_of_getElem? (i := i) (by simp [h5])
      · have hset : (sealT s).set i o = s ++ o :: Lib.decDigits (chk s s.length).toNat := by
          unfold sealT
          rw [h5]
          exact set_last
        have hgi : (sealT s).getD i 0 = 126 := by
          unfold sealT
          rw [h5]
          simp
        rw [hgi] at ho
        have hno : (126 : UInt8) ∉ (sealT s).set i o := by
          rw [hset]
          intro h6
          rcases List.mem_append.1 h6 with h6 | h6
          · have := h126 126 h6
            simp at this
          · rcases List.mem_cons.1 h6 with h6 | h6
            · exact ho h6.symm
            · exact dec_no126 h6
        rw [open_none hno] at hq
        cases hq
      · have hset : (sealT s).set i o = s ++ 126 :: (Lib.decDigits (chk s s.length).toNat).set (i - s.length - 1) o := by
          unfold sealT
          rw [List.set_append_right _ _ (by omega), show i - s.length = (i - s.length - 1) + 1 by omega, List.set_cons_succ]
          rfl
        have hb : beforeT ((sealT s).set i o) = s := by
          rw [hset]
          exact before_app h126
        rw [hb] at q2
        refine ho ?_
        have : ((sealT s).set i o).getD i 0 = o := by simp [hi]
        rw [← q2] at this
        exact this.symm

theorem fit_bytes {zs : List AV} (h : Fit (.sl (.int .u8) 1) zs) : ∃ a : Option (List UInt8), zs = [eU a] := by
  have key : ∀ xs, Fit (.int .u8) xs → ∃ c : UInt8, xs = [AV.int .u8 (c.toNat : Int)] := fun xs hx => by
    cases hx with
    | @int _ n h1 h2 =>
      have h1' : 0 ≤ n := by simpa [IntKind.min, IntKind.signed, IntKind.bits] using h1
      have h2' : n ≤ 255 := by simpa [IntKind.max, IntKind.signed, IntKind.bits] using h2
      refine ⟨UInt8.ofNat n.toNat, ?_⟩
      have : ((UInt8.ofNat n.toNat).toNat : Int) = n := by
        simp
        omega
      rw [this]
  rcases fit_rows (f := fun c : UInt8 => [AV.int .u8 (c.toNat : Int)]) key h with rfl | ⟨l, rfl⟩
  · exact ⟨none, rfl⟩
  · exact ⟨some l, by rw [flatMap_one]; rfl⟩

def sh_FnTrieByBits : List Sh := [.sl (.int .u8) 1, .sl (.int .u8) 1]
set_option maxHeartbeats 4000000 in
theorem law_FnTrieByBits (ys : List AV) (hy : ArgsFit sh_FnTrieByBits ys) : Call Tryz.prog 11 ys [] Nowhere (fun x _ => x = .bool true) := by
  obtain ⟨x1, y1, rfl, h1, hy⟩ := argsFit_cons hy
  obtain ⟨x2, y2, rfl, h2, hy⟩ := argsFit_cons hy
  obtain rfl := argsFit_nil hy
  obtain ⟨code, hce⟩ := fit_bytes h1
  obtain ⟨more, hme⟩ := fit_bytes h2
  subst hce hme
  refine (?_ : ∀ h, Call Tryz.prog 11 [eU code, eU more] h Nowhere (fun x _ => x = .bool true)) []
  intro h
  refine enter (by kernel_rfl) e11 (by kernel_rfl) rfl fun hok => ?_
  simp only [r11, initEnv_2]
  have hl1 := ok_eU (okV_0 hok)
  have hl2 := ok_eU (okV_1 hok)
  (try (simp (disch := first | omega | (simp <;> omega) | fail) only [push_cast, ↓reduceIte, Nat.reduceEqDiff, Nat.reduceAdd, Nat.reduceMul, Nat.reduceSub, Nat.reduceLT, Int.reduceToNat]))
  refine (c_laws_big code more hl1).call ?_
  cases hb : (decide (1048576 < ((lU code).length : Int)) || decide (1048576 - ((lU code).length : Int) < ((lU more).length : Int)))
  · (try (simp (disch := first | omega | (simp <;> omega) | fail) only [push_cast, ↓reduceIte, Nat.reduceEqDiff, Nat.reduceAdd, Nat.reduceMul, Nat.reduceSub, Nat.reduceLT, Int.reduceToNat]))
    refine (c_spec_DrawParentOf code).use fun x hx => ?_
    obtain ⟨t, i, rfl⟩ := hx
    have hpi := c_impl_ParentOf t i
    have hps := c_spec_ParentOf t i
    have hno : (¬ ∃ K, trV t = some K ∧ 1 ≤ i ∧ i ≤ ((nodesK K).length : Int) - 1) → paV t i = zF := fun h5 => by
      unfold paV
      cases hv : trV t with
      | none => rfl
      | some K => exact if_neg fun h7 => h5 ⟨K, hv, h7⟩
    by_cases hc : ∃ K, trV t = some K ∧ 1 ≤ i ∧ i ≤ ((nodesK K).length : Int) - 1
    · obtain ⟨K, hK, hi0, hi1⟩ := hc
      obtain ⟨j, rfl⟩ : ∃ j : Nat, i = (j : Int) := ⟨i.toNat, by omega⟩
      obtain ⟨n1, m1, B1, n2, m2, B2, p, a, s, F⟩ := bits_one hK (j := j) (by omega) (by omega)
      rw [F.par] at hpi hps
      have hr1 := c_impl_BuildRanked n1 m1 B1 F.hm1 F.l1.1 F.l1.2 F.k1
      have hr2 := c_impl_BuildRanked n2 m2 B2 F.hm2 F.l2.1 F.l2.2 F.k2
      have hs1 := c_impl_Select1 n1 m1 B1 p F.hm1 F.l1.2 F.k1 F.hp F.hb
      rw [F.hc] at hs1
      have hz := c_impl_Rank0 n1 m1 B1 p F.hm1 F.l1.1 F.l1.2 F.k1 (Nat.le_of_lt F.hp)
      rw [F.hpa] at hz
      have hnd := c_impl_NodesOf t
      rw [F.nodes] at hnd
      have htb := c_impl_TrieBits t K hK
      have hpp := c_impl_PathOf t j
      rw [F.path] at hpp
      have hba := c_impl_BitAt n2 m2 B2 j F.k2 F.hm2 F.hj F.l2.2
      rw [F.end_] at hba
      have hti := c_impl_TrieIndex t s
      rw [F.idx] at hti
      have hk1 := c_impl_Rank1 n2 m2 B2 j F.hm2 F.l2.1 F.l2.2 F.k2 (Nat.le_of_lt F.hj)
      have hka : s ∈ K → Fn Tryz.prog 51 [eTr t, .int .i64 (cntB B2 j)] (· = .tup [.str s, .bool true]) := fun hsK => by
        have := c_impl_TrieKeyAt t K hK j (by omega) (by
          have := F.end_
          rw [decide_eq_true hsK] at this
          unfold atB
          rw [F.num]
          exact this)
        rw [F.num, F.get] at this
        exact this
      have l1 := F.l1
      have l2 := F.l2
      have sz := F.sz
      have hlb := F.lab
      have hse := F.sh
      have hee := F.en
      have hcl := @cntB_le B2 j
      have hjn := F.hj
      clear F hno
      obtain ⟨tsh, ten, lab⟩ := t
      simp only at hse hee hlb htb
      subst hse hee
      simp only at htb
      clear hK hi0 hi1
      have hbr : ∀ n m B, eRk n m B = .agg [.int .i64 n, eI (some (wordsN B m)), eI (some (supT B m)), eI (some (blkT B m))] := fun _ _ _ => rfl
      rw [hbr] at hr1 hr2 hs1 hz hk1
      clear hbr
      (try (simp (disch := first | omega | (simp <;> omega) | fail) only [push_cast, ↓reduceIte, Nat.reduceEqDiff, Nat.reduceAdd, Nat.reduceMul, Nat.reduceSub, Nat.reduceLT, Int.reduceToNat]))
      refine hpi.call ?_
      (try (simp (disch := first | omega | (simp <;> omega) | fail) only [push_cast, ↓reduceIte, Nat.reduceEqDiff, Nat.reduceAdd, Nat.reduceMul, Nat.reduceSub, Nat.reduceLT, Int.reduceToNat]))
      refine hps.call ?_
      (try (simp (disch := first | omega | (simp <;> omega) | fail) only [push_cast, ↓reduceIte, Nat.reduceEqDiff, Nat.reduceAdd, Nat.reduceMul, Nat.reduceSub, Nat.reduceLT, Int.reduceToNat]))
      refine hr1.call ?_
      (try (simp (disch := first | omega | (simp <;> omega) | fail) only [push_cast, ↓reduceIte, Nat.reduceEqDiff, Nat.reduceAdd, Nat.reduceMul, Nat.reduceSub, Nat.reduceLT, Int.reduceToNat]))
      refine hr2.call ?_
      (try (simp (disch := first | omega | (simp <;> omega) | fail) only [push_cast, ↓reduceIte, Nat.reduceEqDiff, Nat.reduceAdd, Nat.reduceMul, Nat.reduceSub, Nat.reduceLT, Int.reduceToNat]))
      refine hs1.call ?_
      (try (simp (disch := first | omega | (simp <;> omega) | fail) only [push_cast, ↓reduceIte, Nat.reduceEqDiff, Nat.reduceAdd, Nat.reduceMul, Nat.reduceSub, Nat.reduceLT, Int.reduceToNat]))
      refine hz.call ?_
      (try (simp (disch := first | omega | (simp <;> omega) | fail) only [push_cast, ↓reduceIte, Nat.reduceEqDiff, Nat.reduceAdd, Nat.reduceMul, Nat.reduceSub, Nat.reduceLT, Int.reduceToNat]))
      refine hnd.call ?_
      (try (simp (disch := first | omega | (simp <;> omega) | fail) only [push_cast, ↓reduceIte, Nat.reduceEqDiff, Nat.reduceAdd, Nat.reduceMul, Nat.reduceSub, Nat.reduceLT, Int.reduceToNat]))
      refine htb.call ?_
      (try (simp (disch := first | omega | (simp <;> omega) | fail) only [push_cast, ↓reduceIte, Nat.reduceEqDiff, Nat.reduceAdd, Nat.reduceMul, Nat.reduceSub, Nat.reduceLT, Int.reduceToNat]))
      refine hpp.call ?_
      (try (simp (disch := first | omega | (simp <;> omega) | fail) only [push_cast, ↓reduceIte, Nat.reduceEqDiff, Nat.reduceAdd, Nat.reduceMul, Nat.reduceSub, Nat.reduceLT, Int.reduceToNat]))
      refine hba.call ?_
      (try (simp (disch := first | omega | (simp <;> omega) | fail) only [push_cast, ↓reduceIte, Nat.reduceEqDiff, Nat.reduceAdd, Nat.reduceMul, Nat.reduceSub, Nat.reduceLT, Int.reduceToNat]))
      refine hti.call ?_
      by_cases hsK : s ∈ K
      · have hka1 := hka hsK
        rw [if_pos hsK, decide_eq_true hsK]
        (try (simp (disch := first | omega | (simp <;> omega) | fail) only [push_cast, ↓reduceIte, Nat.reduceEqDiff, Nat.reduceAdd, Nat.reduceMul, Nat.reduceSub, Nat.reduceLT, Int.reduceToNat]))
        refine hk1.call ?_
        (try (simp (disch := first | omega | (simp <;> omega) | fail) only [push_cast, ↓reduceIte, Nat.reduceEqDiff, Nat.reduceAdd, Nat.reduceMul, Nat.reduceSub, Nat.reduceLT, Int.reduceToNat]))
        refine hka1.call ?_
        (try (simp (disch := first | omega | (simp <;> omega) | fail) only [push_cast, ↓reduceIte, Nat.reduceEqDiff, Nat.reduceAdd, Nat.reduceMul, Nat.reduceSub, Nat.reduceLT, Int.reduceToNat]))
      · rw [if_neg hsK, decide_eq_false hsK]
        (try (simp (disch := first | omega | (simp <;> omega) | fail) only [push_cast, ↓reduceIte, Nat.reduceEqDiff, Nat.reduceAdd, Nat.reduceMul, Nat.reduceSub, Nat.reduceLT, Int.reduceToNat, zF]))
    · have hnp := hno hc
      rw [hnp] at hpi hps
      obtain ⟨⟨ss, sw⟩, ⟨es, ew⟩, lab⟩ := t
      (try (simp (disch := first | omega | (simp <;> omega) | fail) only [push_cast, ↓reduceIte, Nat.reduceEqDiff, Nat.reduceAdd, Nat.reduceMul, Nat.reduceSub, Nat.reduceLT, Int.reduceToNat]))
      refine hpi.call ?_
      (try (simp (disch := first | omega | (simp <;> omega) | fail) only [push_cast, ↓reduceIte, Nat.reduceEqDiff, Nat.reduceAdd, Nat.reduceMul, Nat.reduceSub, Nat.reduceLT, Int.reduceToNat, zF]))
      refine hps.call ?_
      (try (simp (disch := first | omega | (simp <;> omega) | fail) only [push_cast, ↓reduceIte, Nat.reduceEqDiff, Nat.reduceAdd, Nat.reduceMul, Nat.reduceSub, Nat.reduceLT, Int.reduceToNat, zF]))
  · (try (simp (disch := first | omega | (simp <;> omega) | fail) only [push_cast, ↓reduceIte, Nat.reduceEqDiff, Nat.reduceAdd, Nat.reduceMul, Nat.reduceSub, Nat.reduceLT, Int.reduceToNat]))

end Go.Proofs.YtidhhiecgehgfaaGreat.M
