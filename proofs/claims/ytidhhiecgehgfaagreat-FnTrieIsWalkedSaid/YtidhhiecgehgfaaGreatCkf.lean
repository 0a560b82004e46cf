/-
  What the functions return.
-/
import Derived.Test.YtidhhiecgehgfaaGreatFkf
import Derived.Test.YtidhhiecgehgfaaGreatCke
namespace Go.Proofs.YtidhhiecgehgfaaGreat.M
open Go Go.RowKit
set_option linter.unusedVariables false
set_option linter.unusedSimpArgs false
set_option maxRecDepth 4000

theorem c_laws_big (a b : Option (List UInt8)) (ha : (lU a).length ≤ 9223372036854775807) : Fn Tryz.prog 31 [eU a, eU b] (· = .bool (decide (1048576 < ((lU a).length : Int)) || decide (1048576 - ((lU a).length : Int) < ((lU b).length : Int)))) := by
  refine Fn.of free_bool fun h => ?_
  refine enter (by kernel_rfl) e31 (by kernel_rfl) rfl fun hok => ?_
  simp only [r31, initEnv_2]
  by_cases h1 : 1048576 < ((lU a).length : Int)
  · (try (simp (disch := first | omega | (simp <;> omega) | fail) only [push_cast, ↓reduceIte, Nat.reduceEqDiff, Nat.reduceAdd, Nat.reduceMul, Nat.reduceSub, Nat.reduceLT, Int.reduceToNat, h1]))
    all_goals (try simp [h1])
  · (try (simp (disch := first | omega | (simp <;> omega) | fail) only [push_cast, ↓reduceIte, Nat.reduceEqDiff, Nat.reduceAdd, Nat.reduceMul, Nat.reduceSub, Nat.reduceLT, Int.reduceToNat, h1]))
    (first | refine goC_split (fun hc => ?_) (fun hc => ?_) | refine cnd_split (fun hc => ?_) (fun hc => ?_)) <;> ((try (simp (disch := first | omega | (simp <;> omega) | fail) only [push_cast, ↓reduceIte, Nat.reduceEqDiff, Nat.reduceAdd, Nat.reduceMul, Nat.reduceSub, Nat.reduceLT, Int.reduceToNat]))) <;> (try rw [hc])

theorem c_impl_placedAt (o : Option (List Str)) (s : Str) : Fn Tryz.prog 58 [eS o, .str s] (· = chR (lS o) s) := by
  refine Fn.of free_chR fun h => ?_
  refine enter (by kernel_rfl) e58 (by kernel_rfl) rfl fun hok => ?_
  simp only [r58, initEnv_2]
  have hlo := fnd_lo (l := lS o) (s := s)
  have hhi := fnd_hi (l := lS o) (s := s)
  have hlen := ok_eS (okV_0 hok)
  have hch : chR (lS o) s = if fndI (lS o) s < 0 then zF else .tup [.int .i64 (fndI (lS o) s), .bool true] := rfl
  rw [hch]
  (try (simp (disch := first | omega | (simp <;> omega) | fail) only [push_cast, ↓reduceIte, Nat.reduceEqDiff, Nat.reduceAdd, Nat.reduceMul, Nat.reduceSub, Nat.reduceLT, Int.reduceToNat]))
  refine (c_slices_Index_string o s).call ?_
  generalize fndI (lS o) s = k at *
  by_cases hk0 : k < 0
  · rw [if_pos hk0]
    have hk1 : k = -1 := by omega
    subst hk1
    (try (simp (disch := first | omega | (simp <;> omega) | fail) only [push_cast, ↓reduceIte, Nat.reduceEqDiff, Nat.reduceAdd, Nat.reduceMul, Nat.reduceSub, Nat.reduceLT, Int.reduceToNat, zF]))
    done
  · rw [if_neg hk0]
    have hk1 : (0 ≤ k) = True := by simp; omega
    (try (simp (disch := first | omega | (simp <;> omega) | fail) only [push_cast, ↓reduceIte, Nat.reduceEqDiff, Nat.reduceAdd, Nat.reduceMul, Nat.reduceSub, Nat.reduceLT, Int.reduceToNat, hk1]))
    done

theorem c_impl_FindNode (t : Tr) (s : Str) : Fn Tryz.prog 35 [eTr t, .str s] (· = fnV t s) := by
  refine Fn.of (by unfold fnV; split <;> first | exact free_zF | exact free_chR) fun h => ?_
  refine enter (by kernel_rfl) e35 (by kernel_rfl) rfl fun hok => ?_
  simp only [r35, initEnv_2]
  have hn := c_impl_Trie_nodes_o t
  have hnv : noV t = match trV t with | some K => eS (some (nodesK K)) | none => .nils := rfl
  have hfv : fnV t s = match trV t with | some K => chR (nodesK K) s | none => zF := rfl
  have hfc := @free_cTr t
  rw [hnv] at hn
  clear hnv
  generalize fnV t s = R at hfv
  have hcb0 : H.cells (h ++ [some (.cells (cTr t))]) h.length = some (cTr t) := by rw [cells_h0]; rfl
  obtain ⟨⟨ss, sw⟩, ⟨es, ew⟩, lab⟩ := t
  (try (simp (disch := first | omega | (simp <;> omega) | fail) only [push_cast, ↓reduceIte, Nat.reduceEqDiff, Nat.reduceAdd, Nat.reduceMul, Nat.reduceSub, Nat.reduceLT, Int.reduceToNat]))
  cases hv : trV ⟨⟨ss, sw⟩, ⟨es, ew⟩, lab⟩ with
  | none =>
    rw [hv] at hn hfv
    simp only at hn hfv
    subst hfv
    refine hn.goL (.adr hcb0 hfc .nil) fun x t' g hR hx how => ?_
    subst hR
    have hxn : x = .nils := how.atomOf rfl
    subst hxn
    (try (simp (disch := first | omega | (simp <;> omega) | fail) only [push_cast, ↓reduceIte, Nat.reduceEqDiff, Nat.reduceAdd, Nat.reduceMul, Nat.reduceSub, Nat.reduceLT, Int.reduceToNat]))
    refine (c_impl_placedAt none s).call ?_
    have hlN : lS none = [] := rfl
    rw [hlN, chR_nil]
    (try (simp (disch := first | omega | (simp <;> omega) | fail) only [push_cast, ↓reduceIte, Nat.reduceEqDiff, Nat.reduceAdd, Nat.reduceMul, Nat.reduceSub, Nat.reduceLT, Int.reduceToNat, zF]))
  | some K =>
    rw [hv] at hn hfv
    simp only at hn hfv
    generalize nodesK K = N at *
    subst hfv
    refine hn.goL (.adr hcb0 hfc .nil) fun x t' g hR hx how => ?_
    subst hR
    obtain ⟨b, rfl, hb0, hcb⟩ := ow_strs how
    (try (simp (disch := first | omega | (simp <;> omega) | fail) only [push_cast, ↓reduceIte, Nat.reduceEqDiff, Nat.reduceAdd, Nat.reduceMul, Nat.reduceSub, Nat.reduceLT, Int.reduceToNat]))
    refine (c_impl_placedAt (some N) s).lendL (.cons (vw_all (Nat.zero_le _) hcb (by simp) (one_map fun _ => rfl) (free_map_ fun _ => free_str)) (.free free_str .nil)) own_chR ?_
    have hlN : lS (some N) = N := rfl
    rw [hlN]
    have hch : chR N s = if fndI N s < 0 then zF else .tup [.int .i64 (fndI N s), .bool true] := rfl
    rw [hch]
    split
    · (try (simp (disch := first | omega | (simp <;> omega) | fail) only [push_cast, ↓reduceIte, Nat.reduceEqDiff, Nat.reduceAdd, Nat.reduceMul, Nat.reduceSub, Nat.reduceLT, Int.reduceToNat, zF]))
    · (try (simp (disch := first | omega | (simp <;> omega) | fail) only [push_cast, ↓reduceIte, Nat.reduceEqDiff, Nat.reduceAdd, Nat.reduceMul, Nat.reduceSub, Nat.reduceLT, Int.reduceToNat]))

theorem c_impl_ChildOf (t : Tr) (i c : Int) : Fn Tryz.prog 18 [eTr t, .int .i64 i, .int .i64 c] (· = chV t i c) := by
  refine Fn.of (by unfold chV; split <;> (try split) <;> first | exact free_zF | exact free_chR) fun h => ?_
  refine enter (by kernel_rfl) e18 (by kernel_rfl) rfl fun hok => ?_
  simp only [r18, initEnv_3]
  have hn := c_impl_Trie_nodeAt_o t i
  have hkk := fun K => @trV_ok t K
  have hpv : chV t i c = match trV t with | some K => if (0 ≤ i ∧ i ≤ ((nodesK K).length : Int) - 1) ∧ (0 ≤ c ∧ c ≤ 255) then chR (nodesK K) ((nodesK K).getD i.toNat [] ++ [UInt8.ofNat c.toNat]) else zF | none => zF := rfl
  have hna : naV t i = match trV t with | some K => if 0 ≤ i ∧ i ≤ ((nodesK K).length : Int) - 1 then .tup [.str ((nodesK K).getD i.toNat []), eS (some (nodesK K)), .bool true] else nF | none => nF := rfl
  have hfc := @free_cTr t
  rw [hna] at hn
  clear hna
  generalize chV t i c = R at hpv
  have hcb0 : H.cells (h ++ [some (.cells (cTr t))]) h.length = some (cTr t) := by rw [cells_h0]; rfl
  obtain ⟨⟨ss, sw⟩, ⟨es, ew⟩, lab⟩ := t
  (try (simp (disch := first | omega | (simp <;> omega) | fail) only [push_cast, ↓reduceIte, Nat.reduceEqDiff, Nat.reduceAdd, Nat.reduceMul, Nat.reduceSub, Nat.reduceLT, Int.reduceToNat]))
  cases hv : trV ⟨⟨ss, sw⟩, ⟨es, ew⟩, lab⟩ with
  | none =>
    rw [hv] at hn hpv
    simp only at hn hpv
    subst hpv
    refine hn.goL (.adr hcb0 hfc (.free free_int .nil)) fun x t' g hR hx how => ?_
    subst hR
    have hxn := ow_nF how
    subst hxn
    (try (simp (disch := first | omega | (simp <;> omega) | fail) only [push_cast, ↓reduceIte, Nat.reduceEqDiff, Nat.reduceAdd, Nat.reduceMul, Nat.reduceSub, Nat.reduceLT, Int.reduceToNat, nF, zF]))
    done
  | some K =>
    rw [hv] at hn hpv
    simp only at hn hpv
    have hKo := hkk K hv
    have hN12 := nodesK_len hKo.1
    generalize nodesK K = N at *
    by_cases hc : 0 ≤ i ∧ i ≤ (N.length : Int) - 1
    · rw [if_pos hc] at hn
      refine hn.goL (.adr hcb0 hfc (.free free_int .nil)) fun x t' g hR hx how => ?_
      subst hR
      obtain ⟨b, rfl, hb0, hcb⟩ := ow_na how
      (try (simp (disch := first | omega | (simp <;> omega) | fail) only [push_cast, ↓reduceIte, Nat.reduceEqDiff, Nat.reduceAdd, Nat.reduceMul, Nat.reduceSub, Nat.reduceLT, Int.reduceToNat]))
      refine (c_impl_in c 0 255).call ?_
      by_cases hd : 0 ≤ c ∧ c ≤ 255
      · rw [if_pos ⟨hc, hd⟩] at hpv
        rw [decide_eq_true hd.1, decide_eq_true hd.2]
        obtain ⟨j, rfl⟩ : ∃ j : Nat, i = (j : Int) := ⟨i.toNat, by omega⟩
        have hj : j < N.length := by omega
        rw [Int.toNat_natCast] at hpv ⊢
        obtain ⟨s, hs⟩ : ∃ s, s = N.getD j [] := ⟨_, rfl⟩
        have hsl : s.length ≤ 12 := hN12 s (by rw [hs]; simp [hj])
        rw [← hs] at hpv ⊢
        have hwr : IntKind.u8.wrap c = c := wrap_u8 hd.1 hd.2
        obtain ⟨y, hy⟩ : ∃ y, y = s ++ [UInt8.ofNat c.toNat] := ⟨_, rfl⟩
        have hcat : abin .add (.str s) (.str [UInt8.ofNat c.toNat]) = some (.str y) := by
          rw [hy]
          refine abin_s_add ?_
          simp only [List.length_cons, List.length_nil]
          omega
        rw [← hy] at hpv
        subst hpv
        (try (simp (disch := first | omega | (simp <;> omega) | fail) only [push_cast, ↓reduceIte, Nat.reduceEqDiff, Nat.reduceAdd, Nat.reduceMul, Nat.reduceSub, Nat.reduceLT, Int.reduceToNat, hwr, hcat]))
        refine (c_impl_placedAt (some N) y).lendL (.cons (vw_all (Nat.zero_le _) (cells_app hcb) (by simp) (one_map fun _ => rfl) (free_map_ fun _ => free_str)) (.free free_str .nil)) own_chR ?_
        have hlN : lS (some N) = N := rfl
        rw [hlN]
        have hch : chR N y = if fndI N y < 0 then zF else .tup [.int .i64 (fndI N y), .bool true] := rfl
        rw [hch]
        split
        · (try (simp (disch := first | omega | (simp <;> omega) | fail) only [push_cast, ↓reduceIte, Nat.reduceEqDiff, Nat.reduceAdd, Nat.reduceMul, Nat.reduceSub, Nat.reduceLT, Int.reduceToNat, zF]))
        · (try (simp (disch := first | omega | (simp <;> omega) | fail) only [push_cast, ↓reduceIte, Nat.reduceEqDiff, Nat.reduceAdd, Nat.reduceMul, Nat.reduceSub, Nat.reduceLT, Int.reduceToNat]))
      · rw [if_neg (fun h5 => hd h5.2)] at hpv
        subst hpv
        have hb : (decide (0 ≤ c) && decide (c ≤ 255)) = false := by
          rw [Bool.and_eq_false_iff, decide_eq_false_iff_not, decide_eq_false_iff_not]
          omega
        rw [hb]
        (try (simp (disch := first | omega | (simp <;> omega) | fail) only [push_cast, ↓reduceIte, Nat.reduceEqDiff, Nat.reduceAdd, Nat.reduceMul, Nat.reduceSub, Nat.reduceLT, Int.reduceToNat, zF]))
        done
    · rw [if_neg hc] at hn
      rw [if_neg (fun h5 => hc h5.1)] at hpv
      subst hpv
      refine hn.goL (.adr hcb0 hfc (.free free_int .nil)) fun x t' g hR hx how => ?_
      subst hR
      have hxn := ow_nF how
      subst hxn
      (try (simp (disch := first | omega | (simp <;> omega) | fail) only [push_cast, ↓reduceIte, Nat.reduceEqDiff, Nat.reduceAdd, Nat.reduceMul, Nat.reduceSub, Nat.reduceLT, Int.reduceToNat, nF, zF]))
      done

theorem c_impl_ParentOf (t : Tr) (i : Int) : Fn Tryz.prog 15 [eTr t, .int .i64 i] (· = paV t i) := by
  refine Fn.of (by unfold paV; split <;> (try split) <;> first | exact free_zF | exact free_tup (free_cons_ free_int (free_cons_ free_bool free_nil_))) fun h => ?_
  refine enter (by kernel_rfl) e15 (by kernel_rfl) rfl fun hok => ?_
  simp only [r15, initEnv_2]
  have hn := c_impl_Trie_nodeAt_o t i
  have hkk := fun K => @trV_ok t K
  have hpv : paV t i = match trV t with | some K => if 1 ≤ i ∧ i ≤ ((nodesK K).length : Int) - 1 then .tup [.int .i64 (fndI (nodesK K) (((nodesK K).getD i.toNat []).take (((nodesK K).getD i.toNat []).length - 1))), .bool true] else zF | none => zF := rfl
  have hna : naV t i = match trV t with | some K => if 0 ≤ i ∧ i ≤ ((nodesK K).length : Int) - 1 then .tup [.str ((nodesK K).getD i.toNat []), eS (some (nodesK K)), .bool true] else nF | none => nF := rfl
  have hfc := @free_cTr t
  rw [hna] at hn
  clear hna
  generalize paV t i = R at hpv
  have hcb0 : H.cells (h ++ [some (.cells (cTr t))]) h.length = some (cTr t) := by rw [cells_h0]; rfl
  obtain ⟨⟨ss, sw⟩, ⟨es, ew⟩, lab⟩ := t
  (try (simp (disch := first | omega | (simp <;> omega) | fail) only [push_cast, ↓reduceIte, Nat.reduceEqDiff, Nat.reduceAdd, Nat.reduceMul, Nat.reduceSub, Nat.reduceLT, Int.reduceToNat]))
  cases hv : trV ⟨⟨ss, sw⟩, ⟨es, ew⟩, lab⟩ with
  | none =>
    rw [hv] at hn hpv
    simp only at hn hpv
    subst hpv
    refine hn.goL (.adr hcb0 hfc (.free free_int .nil)) fun x t' g hR hx how => ?_
    subst hR
    have hxn := ow_nF how
    subst hxn
    (try (simp (disch := first | omega | (simp <;> omega) | fail) only [push_cast, ↓reduceIte, Nat.reduceEqDiff, Nat.reduceAdd, Nat.reduceMul, Nat.reduceSub, Nat.reduceLT, Int.reduceToNat, nF, zF]))
    done
  | some K =>
    rw [hv] at hn hpv
    simp only at hn hpv
    have hKo := hkk K hv
    have hN12 := nodesK_len hKo.1
    have hNn := @node_ne K hKo.1
    have hpar := fun s => @par_node K hKo.1 s
    generalize nodesK K = N at *
    by_cases hc : 0 ≤ i ∧ i ≤ (N.length : Int) - 1
    · rw [if_pos hc] at hn
      refine hn.goL (.adr hcb0 hfc (.free free_int .nil)) fun x t' g hR hx how => ?_
      subst hR
      obtain ⟨b, rfl, hb0, hcb⟩ := ow_na how
      by_cases hi0 : i = 0
      · subst hi0
        rw [if_neg (by omega)] at hpv
        subst hpv
        (try (simp (disch := first | omega | (simp <;> omega) | fail) only [push_cast, ↓reduceIte, Nat.reduceEqDiff, Nat.reduceAdd, Nat.reduceMul, Nat.reduceSub, Nat.reduceLT, Int.reduceToNat, zF]))
        done
      · rw [if_pos ⟨by omega, hc.2⟩] at hpv
        obtain ⟨j, rfl⟩ : ∃ j : Nat, i = (j : Int) := ⟨i.toNat, by omega⟩
        have hj : j < N.length := by omega
        rw [Int.toNat_natCast] at hpv ⊢
        obtain ⟨s, hs⟩ : ∃ s, s = N.getD j [] := ⟨_, rfl⟩
        have hsN : s ∈ N := by rw [hs]; simp [hj]
        have hsl : s.length ≤ 12 := hN12 s hsN
        have hsne : s ≠ [] := by rw [hs]; exact hNn (by omega) hj
        have hsp : 1 ≤ s.length := List.length_pos_iff.2 hsne
        have hpn := hpar s hsN hsne
        rw [← hs] at hpv ⊢
        have hch := chR_in hpn
        rw [← hch] at hpv
        subst hpv
        (try (simp (disch := first | omega | (simp <;> omega) | fail) only [push_cast, ↓reduceIte, Nat.reduceEqDiff, Nat.reduceAdd, Nat.reduceMul, Nat.reduceSub, Nat.reduceLT, Int.reduceToNat, hi0]))
        rw [Nat.sub_zero, List.drop_zero]
        refine (c_impl_placedAt (some N) _).lendL (.cons (vw_all (Nat.zero_le _) hcb (by simp) (one_map fun _ => rfl) (free_map_ fun _ => free_str)) (.free free_str .nil)) own_chR ?_
        have hlN : lS (some N) = N := rfl
        rw [hlN, hch]
        (try (simp (disch := first | omega | (simp <;> omega) | fail) only [push_cast, ↓reduceIte, Nat.reduceEqDiff, Nat.reduceAdd, Nat.reduceMul, Nat.reduceSub, Nat.reduceLT, Int.reduceToNat]))
    · rw [if_neg hc] at hn
      rw [if_neg (fun h5 => hc ⟨by omega, h5.2⟩)] at hpv
      subst hpv
      refine hn.goL (.adr hcb0 hfc (.free free_int .nil)) fun x t' g hR hx how => ?_
      subst hR
      have hxn := ow_nF how
      subst hxn
      (try (simp (disch := first | omega | (simp <;> omega) | fail) only [push_cast, ↓reduceIte, Nat.reduceEqDiff, Nat.reduceAdd, Nat.reduceMul, Nat.reduceSub, Nat.reduceLT, Int.reduceToNat, nF, zF]))
      done

theorem cnt_ends {t : Tr} {K : List Str} (h : TrI t K) {i : Nat} (hi : i ≤ (nodesK K).length) : ((List.range i).filter (numW (lI t.en.words)).testBit).length = (((nodesK K).take i).filter fun x => decide (x ∈ K)).length := by
  have h1 := endsTo_filter (P := nodesK K) (g := atB t.en) (p := fun x => decide (x ∈ K)) i hi fun j hj => h.at_ (by omega)
  rw [← h1]
  unfold endsTo
  rw [List.length_map]
  rfl
theorem tx_at {t : Tr} {K : List Str} (h : TrI t K) {s : Str} {i : Nat} (hf : fndI (nodesK K) s = i) : i < (nodesK K).length ∧ atB t.en i = decide (s ∈ K) := by
  have hi := fnd_hi (l := nodesK K) (s := s)
  have hl : i < (nodesK K).length := by omega
  have hm : s ∈ nodesK K := by
    apply Classical.byContradiction
    intro h5
    rw [fnd_no h5] at hf
    omega
  obtain ⟨j, h1, _, h3, _⟩ := fnd_in hm
  have : j = i := by omega
  subst this
  exact ⟨hl, by rw [h.at_ hl, h3]⟩
theorem TrI.words {t : Tr} {K : List Str} (h : TrI t K) : okBt t.en = true := (okT0_in h.ok0).2.1

theorem walk_one {t : Tr} {K : List Str} (h : trV t = some K) {j : Nat} (hj : j < (nodesK K).length) : ∃ s L : Str, pfV t j = .tup [.str s, .bool true] ∧ fnV t s = .tup [.int .i64 j, .bool true] ∧ lbV t j = .tup [.str L, .bool true] ∧
    (∀ k, k < L.length → ∃ m : Nat, chV t j ((L.getD k 0).toNat : Int) = .tup [.int .i64 m, .bool true] ∧ paV t m = .tup [.int .i64 j, .bool true] ∧ pfV t m = .tup [.str (s ++ [L.getD k 0]), .bool true]) ∧
    (j = 0 → s = []) ∧ (j ≠ 0 → 1 ≤ s.length ∧ ∃ a : Nat, a < j ∧ paV t j = .tup [.int .i64 a, .bool true] ∧ pfV t a = .tup [.str (s.take (s.length - 1)), .bool true]) ∧ s.length ≤ 12 ∧ L.length ≤ 481 ∧
    ∀ k, k + 1 < L.length → (L.getD k 0).toNat < (L.getD (k + 1) 0).toNat := by
  have hK := trV_ok h
  have hN1 := nodesK_cap hK.2
  have hN12 := nodesK_len hK.1
  have hNn := @node_ne K hK.1
  have hpn := fun s => @par_node K hK.1 s
  have hT := nodesK_tri hK.1
  unfold pfV fnV lbV chV paV
  rw [h]
  simp only
  generalize nodesK K = N at *
  have hpw := hT.pw
  have hfn := fun i => @fnd_nd N hpw i
  have hmem : ∀ i, i < N.length → N.getD i [] ∈ N := fun i hi => by simp [hi]
  obtain ⟨s, hs⟩ : ∃ s, s = N.getD j [] := ⟨_, rfl⟩
  have hsN : s ∈ N := hs ▸ hmem j hj
  have hfs : fndI N s = j := by rw [hs]; exact hfn j hj
  have hin : ∀ i : Nat, i < N.length → (0 ≤ (i : Int) ∧ (i : Int) ≤ (N.length : Int) - 1) := fun i hi => by omega
  refine ⟨s, labsN N s, ?_, ?_, ?_, fun k hk => ?_, fun h0 => ?_, fun h0 => ?_, hN12 s hsN, Nat.le_trans labs_len hN1, fun k hk => labs_up hpw hk⟩
  · rw [if_pos (hin j hj), Int.toNat_natCast, ← hs]
  · rw [chR_in hsN, hfs]
  · rw [if_pos (hin j hj), Int.toNat_natCast, ← hs]
  · have hc := labs_get hk
    generalize (labsN N s).getD k 0 = x at *
    obtain ⟨m, f1, f2, f3, _⟩ := fnd_in hc
    have hx : (0 : Int) ≤ ((x.toNat : Nat) : Int) ∧ ((x.toNat : Nat) : Int) ≤ 255 := by
      have := x.toNat_lt
      omega
    have hm1 : 1 ≤ m := by
      rcases Nat.eq_zero_or_pos m with h5 | h5
      · subst h5
        obtain ⟨R, hR, _⟩ := hT.head
        rw [hR] at f3
        simp at f3
      · exact h5
    refine ⟨m, ?_, ?_, ?_⟩
    · rw [if_pos ⟨hin j hj, hx⟩, Int.toNat_natCast, ← hs, Int.toNat_natCast, show UInt8.ofNat x.toNat = x by simp, chR_in hc, f1]
    · rw [if_pos ⟨by omega, by omega⟩, Int.toNat_natCast, f3]
      have : (s ++ [x]).take ((s ++ [x]).length - 1) = s := by simp
      rw [this, hfs]
    · rw [if_pos (hin m f2), Int.toNat_natCast, f3]
  · subst h0
    obtain ⟨R, hR, _⟩ := hT.head
    rw [hs, hR]
    rfl
  · have hne : s ≠ [] := by rw [hs]; exact hNn (by omega) hj
    have hp := hpn s hsN hne
    have hl : 1 ≤ s.length := List.length_pos_iff.2 hne
    obtain ⟨a, f1, f2, f3, _⟩ := fnd_in hp
    refine ⟨hl, a, fnd_up hpw f2 hj ?_, ?_, ?_⟩
    · rw [f3, ← hs, List.length_take]
      omega
    · rw [if_pos ⟨by omega, by omega⟩, Int.toNat_natCast, ← hs, f1]
    · rw [if_pos (hin a f2), Int.toNat_natCast, f3]

def decV (l : Str) : Nat := l.foldl (fun a c => 10 * a + (c.toNat - 48)) 0
theorem decV_dec : ∀ n : Nat, decV (Lib.decDigits n) = n := fun n => by
  induction n using Nat.strongRecOn with
  | _ n ih =>
    rw [dec_rec]
    by_cases hn : n < 10
    · rw [if_pos hn]
      simp [decV]
      omega
    · rw [if_neg hn]
      unfold decV at ih ⊢
      rw [List.foldl_append, ih (n / 10) (by omega)]
      simp
      omega

def beforeT (s : Str) : Str := s.takeWhile fun c => c != 126
def openOk (s t : Str) : Bool := plainV t && decide (sealT t = s)
def openV (s : Str) : AV := if openOk s (beforeT s) then .tup [.str (beforeT s), .bool true] else .tup [.str [], .bool false]
theorem free_openV {s : Str} : Free (openV s) := by
  unfold openV
  split <;> exact free_tup (free_cons_ free_str (free_cons_ free_bool free_nil_))
theorem plain_no126 {t : Str} (h : plain t = true) : ∀ c ∈ t, (c != 126) = true := by
  intro c hc
  have := List.all_eq_true.1 h c hc
  simp only [okCh, Bool.and_eq_true, decide_eq_true_eq] at this
  simp only [bne_iff_ne, ne_eq]
  intro he
  subst he
  simp at this
theorem plainV_plain {t : Str} (h : plainV t = true) : plain t = true := by
  simp only [plainV, Bool.and_eq_true] at h
  exact h.1
theorem before_app {t r : Str} (h : ∀ c ∈ t, (c != 126) = true) : beforeT (t ++ 126 :: r) = t := by
  unfold beforeT
  rw [List.takeWhile_append_of_pos h]
  simp
theorem sealT_len (t : Str) : t.length < (sealT t).length := by
  unfold sealT
  simp
theorem dec_no126 {n : Nat} : (126 : UInt8) ∉ Lib.decDigits n := fun h => by
  have := dec_plain n 126 h
  simp at this
theorem before_no : ∀ {s : Str}, (126 : UInt8) ∉ s → beforeT s = s
  | [], _ => rfl
  | c :: s, h => by
    simp only [List.mem_cons, not_or] at h
    have ih := before_no h.2
    have hc : (c != 126) = true := by simpa using Ne.symm h.1
    unfold beforeT at ih ⊢
    rw [List.takeWhile_cons, if_pos hc, ih]
theorem open_none {s : Str} (h : (126 : UInt8) ∉ s) : openOk s (beforeT s) = false := by
  rw [before_no h]
  unfold openOk
  have := sealT_len s
  have hne : sealT s ≠ s := fun he => by
    rw [he] at this
    omega
  simp [hne]
theorem split_at {s : Str} {a : Nat} (ha : a < s.length) (hc : s.getD a 0 = 126) : s = s.take a ++ 126 :: s.drop (a + 1) := by
  have h1 : s[a] = 126 := by simpa [ha] using hc
  conv => lhs; rw [← List.take_append_drop a s, List.drop_eq_getElem_cons ha, h1]
/-- The last mark serves as well as the first. -/
theorem open_last {s : Str} {a : Nat} (ha : a < s.length) (hc : s.getD a 0 = 126) (hd : (126 : UInt8) ∉ s.drop (a + 1)) : openOk s (s.take a) = openOk s (beforeT s) ∧ (openOk s (s.take a) = true → s.take a = beforeT s) := by
  have hs := split_at ha hc
  by_cases hp : plainV (s.take a) = true
  · have hb : beforeT s = s.take a := by
      conv => lhs; rw [hs]
      exact before_app (plain_no126 (plainV_plain hp))
    rw [hb]
    exact ⟨rfl, fun _ => rfl⟩
  · have h1 : openOk s (s.take a) = false := by
      unfold openOk
      rw [Bool.not_eq_true] at hp
      rw [hp]
      rfl
    refine ⟨?_, fun h => by rw [h1] at h; cases h⟩
    rw [h1]
    cases h2 : openOk s (beforeT s) with
    | false => rfl
    | true =>
      exfalso
      simp only [openOk, Bool.and_eq_true, decide_eq_true_eq] at h2
      obtain ⟨p1, p2⟩ := h2
      generalize beforeT s = t at p1 p2
      unfold sealT at p2
      have hget : (t ++ 126 :: Lib.decDigits (chk t t.length).toNat)[a]? = some 126 := by
        rw [p2]
        simpa [ha] using hc
      rcases Nat.lt_trichotomy a t.length with h5 | h5 | h5
      · rw [List.getElem?_append_left h5] at hget
        have := plain_no126 (plainV_plain p1) 126 (List.mem_of_getElem? hget)
        simp at this
      · subst h5
        refine hp ?_
        rw [← p2, List.take_left]
        exact p1
      · rw [List.getElem?_append_right (by omega), show a - t.length = (a - t.length - 1) + 1 by omega, List.getElem?_cons_succ] at hget
        exact dec_no126 (List.mem_of_getElem? hget)

theorem dec_inj {n m : Nat} (h : Lib.decDigits n = Lib.decDigits m) : n = m := by
  rw [← decV_dec n, h, decV_dec]
/-- The weighted sum. -/
def wsum (s : Str) : Nat → Int
  | 0 => 0
  | i + 1 => wsum s i + ((i : Int) + 1) * ((s.getD i 0).toNat : Int)
theorem chk_wsum (s : Str) : ∀ i, chk s i = wsum s i % 65521
  | 0 => by simp [chk, wsum]
  | i + 1 => by
    unfold chk wsum
    rw [chk_wsum s i, Int.emod_add_emod]
theorem getD_set {s : Str} {i j : Nat} {o : UInt8} (hi : i < s.length) : (s.set i o).getD j 0 = if j = i then o else s.getD j 0 := by
  simp only [List.getD_eq_getElem?_getD, List.getElem?_set]
  by_cases hj : i = j
  · subst hj
    simp [hi]
  · rw [if_neg hj, if_neg (Ne.symm hj)]
theorem wsum_set {s : Str} {i : Nat} {o : UInt8} (hi : i < s.length) : ∀ n, wsum (s.set i o) n = wsum s n + if i < n then ((i : Int) + 1) * ((o.toNat : Int) - ((s.getD i 0).toNat : Int)) else 0
  | 0 => by simp [wsum]
  | n + 1 => by
    unfold wsum
    rw [wsum_set hi n, getD_set hi]
    by_cases hn : n = i
    · subst hn
      rw [if_neg (by omega), if_pos rfl, if_pos (by omega), Int.mul_sub]
      omega
    · rw [if_neg hn]
      by_cases h5 : i < n
      · rw [if_pos h5, if_pos (show i < n + 1 by omega)]
        omega
      · simp only [if_neg h5, if_neg (show ¬ i < n + 1 by omega), Int.add_zero]
theorem cop : ∀ d, d < 94 → d ≠ 0 → Nat.gcd 65521 d = 1 := by decide
theorem chk_ne {s : Str} {i : Nat} {o : UInt8} (hi : i < s.length) (hl : s.length ≤ 6000) (h1 : okCh (s.getD i 0) = true) (h2 : okCh o = true) (hne : o ≠ s.getD i 0) : chk (s.set i o) s.length ≠ chk s s.length := by
  simp only [okCh, Bool.and_eq_true, decide_eq_true_eq] at h1 h2
  rw [chk_wsum, chk_wsum, wsum_set hi, if_pos hi]
  generalize wsum s s.length = t
  intro h
  have hne2 : o.toNat ≠ (s.getD i 0).toNat := fun he => hne (UInt8.toNat_inj.1 he)
  generalize (s.getD i 0).toNat = a at h1 hne2 h
  generalize o.toNat = b at h2 hne2 h
  have hd : (65521 : Int) ∣ ((i : Int) + 1) * ((b : Int) - (a : Int)) := by
    have := Int.emod_emod_of_dvd (t + ((i : Int) + 1) * ((b : Int) - (a : Int))) (Int.dvd_refl 65521)
    have h3 : (t + ((i : Int) + 1) * ((b : Int) - (a : Int)) - t) % 65521 = 0 := by
      rw [Int.sub_emod, h, Int.sub_self]
      rfl
    rw [show t + ((i : Int) + 1) * ((b : Int) - (a : Int)) - t = ((i : Int) + 1) * ((b : Int) - (a : Int)) by omega] at h3
    exact Int.dvd_of_emod_eq_zero h3
  have hn : 65521 ∣ (i + 1) * ((b : Int) - (a : Int)).natAbs := by
    have := Int.natAbs_dvd_natAbs.2 hd
    rw [Int.natAbs_mul] at this
    have e : ((i : Int) + 1).natAbs = i + 1 := by omega
    rw [e] at this
    exact this
  have hc := cop ((b : Int) - (a : Int)).natAbs (by omega) (by omega)
  have := Nat.Coprime.dvd_of_dvd_mul_right hc hn
  have := Nat.le_of_dvd (by omega) this
  omega
theorem open_sealed {s : Str} (hp : plainV s = true) : openOk (sealT s) (beforeT (sealT s)) = true ∧ beforeT (sealT s) = s := by
  have hb : beforeT (sealT s) = s := by
    unfold sealT
    exact before_app (plain_no126 (plainV_plain hp))
  rw [hb]
  unfold openOk
  simp [hp]
theorem seal_damage {s : Str} {i : Nat} {o : UInt8} (hp : plainV s = true) (hi : i < (sealT s).length) : openOk ((sealT s).set i o) (beforeT ((sealT s).set i o)) = decide (o = (sealT s).getD i 0) := by
  by_cases ho : o = (sealT s).getD i 0
  · have : (sealT s).set i o = sealT s := by
      rw [ho]
      refine List.ext_getElem? fun j => ?_
      rw [List.getElem?_set]
      by_cases hj : i = j
      · subst hj
        simp [hi]
      · rw [if_neg hj]
    rw [this, (open_sealed hp).1]
    simp [ho]
  · rw [decide_eq_false ho]
    have hpl := plainV_plain hp
    have hl : s.length ≤ 6000 := by
      simp only [plainV, Bool.and_eq_true, decide_eq_true_eq] at hp
      omega
    have h126 := plain_no126 hpl
    cases hq : openOk ((sealT s).set i o) (beforeT ((sealT s).set i o)) with
    | false => rfl
    | true =>
      exfalso
      have hq2 := hq
      simp only [openOk, Bool.and_eq_true, decide_eq_true_eq] at hq2
      obtain ⟨q1, q2⟩ := hq2
      rcases Nat.lt_trichotomy i s.length with h5 | h5 | h5
      · have hset : (sealT s).set i o = s.set i o ++ 126 :: Lib.decDigits (chk s s.length).toNat := by
          unfold sealT
          rw [List.set_append_left _ _ h5]
        have hgi : (sealT s).getD i 0 = s.getD i 0 := by
          unfold sealT
          simp [List.getElem?_append_left h5]
        rw [hgi] at ho
        by_cases ho6 : o = 126
        · have hcut : s.set i o = s.take i ++ 126 :: s.drop (i + 1) := by
            rw [List.set_eq_take_append_cons_drop, if_pos h5, ho6]
          have hb : beforeT ((sealT s).set i o) = s.take i := by
            rw [hset, hcut, List.append_assoc]
            exact before_app fun c hc => h126 c (List.mem_of_mem_take hc)
          rw [hb, hset, hcut] at q2
          unfold sealT at q2
          rw [List.append_assoc] at q2
          have q3 := List.append_cancel_left q2
          simp only [List.cons_append, List.cons.injEq, true_and] at q3
          have : (126 : UInt8) ∈ Lib.decDigits (chk (s.take i) (s.take i).length).toNat := by
            rw [q3]
            simp
          exact dec_no126 this
        · have hall : ∀ c ∈ s.set i o, (c != 126) = true := by
            intro c hc
            rcases List.mem_or_eq_of_mem_set hc with h6 | h6
            · exact h126 c h6
            · subst h6
              simpa using ho6
          have hb : beforeT ((sealT s).set i o) = s.set i o := by
            rw [hset]
            exact before_app hall
          rw [hb, hset] at q2
          rw [hb] at q1
          unfold sealT at q2
          have q3 := List.append_cancel_left q2
          simp only [List.cons.injEq, true_and] at q3
          have q4 := dec_inj q3
          rw [List.length_set] at q4
          obtain ⟨a1, _⟩ := chk_bd (s.set i o) s.length
          obtain ⟨b1, _⟩ := chk_bd s s.length
          refine chk_ne h5 hl (List.all_eq_true.1 hpl _ (by simp [h5])) (List.all_eq_true.1 (plainV_plain q1) o ?_) ho (by omega)
          exact List.mem_of_getElem? (i := i) (by simp [h5])
      · have hset : (sealT s).set i o = s ++ o :: Lib.decDigits (chk s s.length).toNat := by
          unfold sealT
          rw [h5]
          exact set_last
        have hgi : (sealT s).getD i 0 = 126 := by
          unfold sealT
          rw [h5]
          simp
        rw [hgi] at ho
        have hno : (126 : UInt8) ∉ (sealT s).set i o := by
          rw [hset]
          intro h6
          rcases List.mem_append.1 h6 with h6 | h6
          · have := h126 126 h6
            simp at this
          · rcases List.mem_cons.1 h6 with h6 | h6
            · exact ho h6.symm
            · exact dec_no126 h6
        rw [open_none hno] at hq
        cases hq
      · have hset : (sealT s).set i o = s ++ 126 :: (Lib.decDigits (chk s s.length).toNat).set (i - s.length - 1) o := by
          unfold sealT
          rw [List.set_append_right _ _ (by omega), show i - s.length = (i - s.length - 1) + 1 by omega, List.set_cons_succ]
          rfl
        have hb : beforeT ((sealT s).set i o) = s := by
          rw [hset]
          exact before_app h126
        rw [hb] at q2
        refine ho ?_
        have : ((sealT s).set i o).getD i 0 = o := by simp [hi]
        rw [← q2] at this
        exact this.symm

theorem fit_bytes {zs : List AV} (h : Fit (.sl (.int .u8) 1) zs) : ∃ a : Option (List UInt8), zs = [eU a] := by
  have key : ∀ xs, Fit (.int .u8) xs → ∃ c : UInt8, xs = [AV.int .u8 (c.toNat : Int)] := fun xs hx => by
    cases hx with
    | @int _ n h1 h2 =>
      have h1' : 0 ≤ n := by simpa [IntKind.min, IntKind.signed, IntKind.bits] using h1
      have h2' : n ≤ 255 := by simpa [IntKind.max, IntKind.signed, IntKind.bits] using h2
      refine ⟨UInt8.ofNat n.toNat, ?_⟩
      have : ((UInt8.ofNat n.toNat).toNat : Int) = n := by
        simp
        omega
      rw [this]
  rcases fit_rows (f := fun c : UInt8 => [AV.int .u8 (c.toNat : Int)]) key h with rfl | ⟨l, rfl⟩
  · exact ⟨none, rfl⟩
  · exact ⟨some l, by rw [flatMap_one]; rfl⟩

def sh_FnTrieIsWalked : List Sh := [.sl (.int .u8) 1, .sl (.int .u8) 1]
set_option maxHeartbeats 4000000 in
theorem law_FnTrieIsWalked (ys : List AV) (hy : ArgsFit sh_FnTrieIsWalked ys) : Call Tryz.prog 9 ys [] Nowhere (fun x _ => x = .bool true) := by
  obtain ⟨x1, y1, rfl, h1, hy⟩ := argsFit_cons hy
  obtain ⟨x2, y2, rfl, h2, hy⟩ := argsFit_cons hy
  obtain rfl := argsFit_nil hy
  obtain ⟨code, hce⟩ := fit_bytes h1
  obtain ⟨more, hme⟩ := fit_bytes h2
  subst hce hme
  refine (?_ : ∀ h, Call Tryz.prog 9 [eU code, eU more] h Nowhere (fun x _ => x = .bool true)) []
  intro h
  refine enter (by kernel_rfl) e9 (by kernel_rfl) rfl fun hok => ?_
  simp only [r9, initEnv_2]
  have hl1 := ok_eU (okV_0 hok)
  have hl2 := ok_eU (okV_1 hok)
  (try (simp (disch := first | omega | (simp <;> omega) | fail) only [push_cast, ↓reduceIte, Nat.reduceEqDiff, Nat.reduceAdd, Nat.reduceMul, Nat.reduceSub, Nat.reduceLT, Int.reduceToNat]))
  refine (c_laws_big code more hl1).call ?_
  cases hb : (decide (1048576 < ((lU code).length : Int)) || decide (1048576 - ((lU code).length : Int) < ((lU more).length : Int)))
  · (try (simp (disch := first | omega | (simp <;> omega) | fail) only [push_cast, ↓reduceIte, Nat.reduceEqDiff, Nat.reduceAdd, Nat.reduceMul, Nat.reduceSub, Nat.reduceLT, Int.reduceToNat]))
    refine (c_spec_DrawPathOf code).use fun x hx => ?_
    obtain ⟨t, i, rfl⟩ := hx
    have hpa := c_impl_PathOf t
    have hps := c_spec_PathOf t i
    have hfi := c_impl_FindNode t
    have hla := c_impl_LabelsAt t
    have hch := c_impl_ChildOf t
    have hpr := c_impl_ParentOf t
    have hno : (¬ ∃ K, trV t = some K ∧ 0 ≤ i ∧ i ≤ ((nodesK K).length : Int) - 1) → pfV t i = nP := fun h5 => by
      unfold pfV
      cases hv : trV t with
      | none => rfl
      | some K => exact if_neg fun h7 => h5 ⟨K, hv, h7⟩
    have hw := fun K => @walk_one t K
    by_cases hc : ∃ K, trV t = some K ∧ 0 ≤ i ∧ i ≤ ((nodesK K).length : Int) - 1
    · obtain ⟨K, hK, hi0, hi1⟩ := hc
      obtain ⟨j, rfl⟩ : ∃ j : Nat, i = (j : Int) := ⟨i.toNat, by omega⟩
      obtain ⟨s, L, w1, w2, w3, w4, w5, w6, w7, w8, w9⟩ := hw K hK (j := j) (by omega)
      have hpi := hpa j
      rw [w1] at hpi hps
      have hf := hfi s
      rw [w2] at hf
      have hl := hla j
      rw [w3] at hl
      clear hno hw hfi hla w1 w2 w3 hK hi0 hi1 K
      obtain ⟨⟨ss, sw⟩, ⟨es, ew⟩, lab⟩ := t
      (try (simp (disch := first | omega | (simp <;> omega) | fail) only [push_cast, ↓reduceIte, Nat.reduceEqDiff, Nat.reduceAdd, Nat.reduceMul, Nat.reduceSub, Nat.reduceLT, Int.reduceToNat]))
      refine hpi.call ?_
      (try (simp (disch := first | omega | (simp <;> omega) | fail) only [push_cast, ↓reduceIte, Nat.reduceEqDiff, Nat.reduceAdd, Nat.reduceMul, Nat.reduceSub, Nat.reduceLT, Int.reduceToNat]))
      refine hps.call ?_
      (try (simp (disch := first | omega | (simp <;> omega) | fail) only [push_cast, ↓reduceIte, Nat.reduceEqDiff, Nat.reduceAdd, Nat.reduceMul, Nat.reduceSub, Nat.reduceLT, Int.reduceToNat]))
      refine hf.call ?_
      (try (simp (disch := first | omega | (simp <;> omega) | fail) only [push_cast, ↓reduceIte, Nat.reduceEqDiff, Nat.reduceAdd, Nat.reduceMul, Nat.reduceSub, Nat.reduceLT, Int.reduceToNat]))
      refine hl.call ?_
      (try (simp (disch := first | omega | (simp <;> omega) | fail) only [push_cast, ↓reduceIte, Nat.reduceEqDiff, Nat.reduceAdd, Nat.reduceMul, Nat.reduceSub, Nat.reduceLT, Int.reduceToNat]))
      generalize hAft : RCode.seq (.seq (.reg (⟨some 147, .v (.mov (.t 6)), none⟩ :: _)) _) _ = AF
      refine T_for L.length (fun k e h' => Pins e [(5, .adr h.length 0), (6, .int .i64 j), (7, .str s), (13, .str L), (15, .int .i64 k)] ∧ H.cells h' h.length = some [.int .i64 ss, eI sw, .int .i64 es, eI ew, .str lab]) ?_ ?_
      · have hbx0 : H.cells (h ++ [some (.cells [.int .i64 ss, eI sw, .int .i64 es, eI ew, .str lab])]) h.length = some [.int .i64 ss, eI sw, .int .i64 es, eI ew, .str lab] := by rw [cells_h0]; rfl
        (try (simp (disch := first | omega | (simp <;> omega) | fail) only [push_cast, ↓reduceIte, Nat.reduceEqDiff, Nat.reduceAdd, Nat.reduceMul, Nat.reduceSub, Nat.reduceLT, Int.reduceToNat]))
        all_goals (try exact hbx0)
        done
      rintro k e h' hk ⟨hp, hbx⟩
      refine T_pins hp fun e => ?_
      (try (simp (disch := first | omega | (simp <;> omega) | fail) only [push_cast, ↓reduceIte, Nat.reduceEqDiff, Nat.reduceAdd, Nat.reduceMul, Nat.reduceSub, Nat.reduceLT, Int.reduceToNat]))
      first | refine goC_split (fun hc => ?_) (fun hc => ?_) | refine cnd_split (fun hc => ?_) (fun hc => ?_)
      · (try (simp only [decide_eq_true_eq, decide_eq_false_iff_not, Bool.not_eq_true', Bool.not_eq_false', Bool.and_eq_true, Bool.or_eq_true, Int.not_lt, Int.not_le] at hc)); (try (simp (disch := first | omega | (simp <;> omega) | fail) only [push_cast, ↓reduceIte, Nat.reduceEqDiff, Nat.reduceAdd, Nat.reduceMul, Nat.reduceSub, Nat.reduceLT, Int.reduceToNat]))
        have hk2 : k < L.length := by omega
        obtain ⟨m, m1, m2, m3⟩ := w4 k hk2
        have hup := fun h5 => w9 (k - 1) h5
        have hc1 := hch j ((L.getD k 0).toNat : Int)
        rw [m1] at hc1
        have hp1 := hpr m
        rw [m2] at hp1
        have hp2 := hpa m
        rw [m3] at hp2
        have hsx : sidxA (.str L) (.int .i64 (k : Int)) = some (.int .u8 ((L.getD k 0).toNat : Int)) := by
          rw [sidxA_str (by omega) (by omega), Int.toNat_natCast]
        have hd : List.take (k + 1 - k) (List.drop k L) = [L.getD k 0] := by
          rw [List.drop_eq_getElem_cons hk2, show k + 1 - k = 1 by omega, List.take_succ_cons, List.take_zero, List.getD_eq_getElem?_getD, List.getElem?_eq_getElem hk2]
          rfl
        have hsx1 : 1 ≤ k → sidxA (.str L) (.int .i64 ((k : Int) - 1)) = some (.int .u8 ((L.getD (k - 1) 0).toNat : Int)) := fun h5 => by
          rw [sidxA_str (by omega) (by omega), show ((k : Int) - 1).toNat = k - 1 by omega]
        have hwr : IntKind.i64.wrap ((L.getD k 0).toNat : Int) = ((L.getD k 0).toNat : Int) := by
          have := (L.getD k 0).toNat_lt
          exact wrap_ok (by omega) (by omega)
        clear w4 w9 m1 m2 m3 hch hpr hpa
        generalize hxd : L.getD k 0 = x at *
        have hcat : abin .add (.str s) (.str [x]) = some (.str (s ++ [x])) := abin_s_add (by simp; omega)
        (try (simp (disch := first | omega | (simp <;> omega) | fail) only [push_cast, ↓reduceIte, Nat.reduceEqDiff, Nat.reduceAdd, Nat.reduceMul, Nat.reduceSub, Nat.reduceLT, Int.reduceToNat, hbx, hsx, hwr]))
        refine hc1.call ?_
        (try (simp (disch := first | omega | (simp <;> omega) | fail) only [push_cast, ↓reduceIte, Nat.reduceEqDiff, Nat.reduceAdd, Nat.reduceMul, Nat.reduceSub, Nat.reduceLT, Int.reduceToNat, hbx]))
        refine hp1.call ?_
        (try (simp (disch := first | omega | (simp <;> omega) | fail) only [push_cast, ↓reduceIte, Nat.reduceEqDiff, Nat.reduceAdd, Nat.reduceMul, Nat.reduceSub, Nat.reduceLT, Int.reduceToNat, hbx]))
        refine hp2.call ?_
        by_cases hk0 : k = 0
        · have hk0' : (0 < (k : Int)) = False := eq_false (by omega)
          (try (simp (disch := first | omega | (simp <;> omega) | fail) only [push_cast, ↓reduceIte, Nat.reduceEqDiff, Nat.reduceAdd, Nat.reduceMul, Nat.reduceSub, Nat.reduceLT, Int.reduceToNat, hk0', hd, hcat, hbx]))
        · have hk0' : (0 < (k : Int)) = True := eq_true (by omega)
          have hs2 := hsx1 (by omega)
          have hlt := hup (by omega)
          rw [show k - 1 + 1 = k by omega, hxd] at hlt
          have hlt' : ((x.toNat : Int) ≤ ((L.getD (k - 1) 0).toNat : Int)) = False := eq_false (by omega)
          (try (simp (disch := first | omega | (simp <;> omega) | fail) only [push_cast, ↓reduceIte, Nat.reduceEqDiff, Nat.reduceAdd, Nat.reduceMul, Nat.reduceSub, Nat.reduceLT, Int.reduceToNat, hk0', hd, hcat, hsx, hs2, hlt', hbx]))
      · (try (simp only [decide_eq_true_eq, decide_eq_false_iff_not, Bool.not_eq_true', Bool.not_eq_false', Bool.and_eq_true, Bool.or_eq_true, Int.not_lt, Int.not_le] at hc)); (try (simp (disch := first | omega | (simp <;> omega) | fail) only [push_cast, ↓reduceIte, Nat.reduceEqDiff, Nat.reduceAdd, Nat.reduceMul, Nat.reduceSub, Nat.reduceLT, Int.reduceToNat]))
        have hke : k = L.length := by omega
        subst hke
        rw [← hAft]
        by_cases hj0 : j = 0
        · have hs0 := w5 hj0
          (try (simp (disch := first | omega | (simp <;> omega) | fail) only [push_cast, ↓reduceIte, Nat.reduceEqDiff, Nat.reduceAdd, Nat.reduceMul, Nat.reduceSub, Nat.reduceLT, Int.reduceToNat, hj0, hs0]))
        · obtain ⟨hs1, a, ha, ha1, ha2⟩ := w6 hj0
          have hp1 := hpr j
          rw [ha1] at hp1
          have hp2 := hpa a
          rw [ha2] at hp2
          have hj0' : ((j : Int) = 0) = False := eq_false (by omega)
          have haj : ((a : Int) < (j : Int)) = True := eq_true (by omega)
          (try (simp (disch := first | omega | (simp <;> omega) | fail) only [push_cast, ↓reduceIte, Nat.reduceEqDiff, Nat.reduceAdd, Nat.reduceMul, Nat.reduceSub, Nat.reduceLT, Int.reduceToNat, hj0', hbx]))
          refine hp1.call ?_
          (try (simp (disch := first | omega | (simp <;> omega) | fail) only [push_cast, ↓reduceIte, Nat.reduceEqDiff, Nat.reduceAdd, Nat.reduceMul, Nat.reduceSub, Nat.reduceLT, Int.reduceToNat, hbx]))
          refine hp2.call ?_
          (try (simp (disch := first | omega | (simp <;> omega) | fail) only [push_cast, ↓reduceIte, Nat.reduceEqDiff, Nat.reduceAdd, Nat.reduceMul, Nat.reduceSub, Nat.reduceLT, Int.reduceToNat, haj, List.drop_zero, Nat.sub_zero]))
    · have hnp := hno hc
      have hpi := hpa i
      rw [hnp] at hpi hps
      obtain ⟨⟨ss, sw⟩, ⟨es, ew⟩, lab⟩ := t
      (try (simp (disch := first | omega | (simp <;> omega) | fail) only [push_cast, ↓reduceIte, Nat.reduceEqDiff, Nat.reduceAdd, Nat.reduceMul, Nat.reduceSub, Nat.reduceLT, Int.reduceToNat]))
      refine hpi.call ?_
      (try (simp (disch := first | omega | (simp <;> omega) | fail) only [push_cast, ↓reduceIte, Nat.reduceEqDiff, Nat.reduceAdd, Nat.reduceMul, Nat.reduceSub, Nat.reduceLT, Int.reduceToNat, nP]))
      refine hps.call ?_
      (try (simp (disch := first | omega | (simp <;> omega) | fail) only [push_cast, ↓reduceIte, Nat.reduceEqDiff, Nat.reduceAdd, Nat.reduceMul, Nat.reduceSub, Nat.reduceLT, Int.reduceToNat, nP]))
  · (try (simp (disch := first | omega | (simp <;> omega) | fail) only [push_cast, ↓reduceIte, Nat.reduceEqDiff, Nat.reduceAdd, Nat.reduceMul, Nat.reduceSub, Nat.reduceLT, Int.reduceToNat]))

end Go.Proofs.YtidhhiecgehgfaaGreat.M
