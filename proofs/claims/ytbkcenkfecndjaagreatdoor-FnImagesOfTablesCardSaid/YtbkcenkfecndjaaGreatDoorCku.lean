/-
  What the functions return.
-/
import Derived.Test.YtbkcenkfecndjaaGreatDoorFku
import Derived.Test.YtbkcenkfecndjaaGreatDoorCks
namespace Go.Proofs.YtbkcenkfecndjaaGreatDoor.M
open Go Go.RowKit
set_option linter.unusedVariables false
set_option linter.unusedSimpArgs false
set_option maxRecDepth 4000

theorem c_spec_l1Cur_pick2B (b : Nat) (c : Option (List UInt8)) (K : Nat) (h : H) (n : Int) (hcu : CurI h b c K) (hK : K ≤ 100000000) (hn : 200 < n) (hn2 : n ≤ 200000) :
    Call Tryz.prog 35 [.adr b 0, .int .i64 n] h (fun b' => b' = b) (fun x h' => (∃ m : Int, x = .int .i64 m ∧ 0 ≤ m ∧ m < n) ∧ CurS h h' b c (K + 2)) := by
  refine enter (by kernel_rfl) e35 (by kernel_rfl) rfl fun hok => ?_
  simp only [r35, initEnv_2]
  (try (simp (disch := first | omega | (simp <;> omega) | fail) only [push_cast, ↓reduceIte, Nat.reduceEqDiff, Nat.reduceAdd, Nat.reduceMul, Nat.reduceSub, Nat.reduceLT, Int.reduceToNat]))
  refine (c_spec_l1Cur_next b c K h hcu (by omega)).mono (fun x h' hx => ?_) (fun b' _ hb' => Or.inl hb')
  obtain ⟨⟨m, rfl, m0, m1⟩, hs⟩ := hx
  (try (simp (disch := first | omega | (simp <;> omega) | fail) only [push_cast, ↓reduceIte, Nat.reduceEqDiff, Nat.reduceAdd, Nat.reduceMul, Nat.reduceSub, Nat.reduceLT, Int.reduceToNat]))
  repeat' (with_reducible refine And.intro ?_ ?_)
  all_goals
    refine (c_spec_l1Cur_next b c (K + 1) h' hs.2.2 (by omega)).mono (fun x h2 hx => ?_) (fun b' _ hb' => Or.inl hb')
    obtain ⟨⟨m2, rfl, m20, m21⟩, hs2⟩ := hx
    have hs3 : CurS h h2 b c (K + 2) := ⟨hs2.1.trans hs.1, fun k hk => (hs2.2.1 k hk).trans (hs.2.1 k hk), hs2.2.2⟩
    have h1 := Int.emod_nonneg (m * 256 + m2) (show n ≠ 0 by omega)
    have h2 := Int.emod_lt_of_pos (m * 256 + m2) (show 0 < n by omega)
    (try (simp (disch := first | omega | (simp <;> omega) | fail) only [push_cast, ↓reduceIte, Nat.reduceEqDiff, Nat.reduceAdd, Nat.reduceMul, Nat.reduceSub, Nat.reduceLT, Int.reduceToNat]))
    all_goals (try exact ⟨⟨_, rfl, h1, h2⟩, hs3⟩)
theorem c_spec_l1Cur_pickB (b : Nat) (c : Option (List UInt8)) (K : Nat) (h : H) (n : Int) (hcu : CurI h b c K) (hK : K ≤ 10000000) (hn2 : n ≤ 200000) :
    Call Tryz.prog 35 [.adr b 0, .int .i64 n] h (fun b' => b' = b) (fun x h' => (∃ m : Int, x = .int .i64 m ∧ 0 ≤ m ∧ m ≤ 200000 ∧ (1 ≤ n → m < n)) ∧ CurF h h' b c (K + 2)) := by
  by_cases h1 : n ≤ 1
  · refine enter (by kernel_rfl) e35 (by kernel_rfl) rfl fun hok => ?_
    simp only [r35, initEnv_2]
    have h1' : (1 < n) = False := by simp; omega
    have hF := (CurF.refl hcu).mono (show K ≤ K + 2 by omega)
    (try (simp (disch := first | omega | (simp <;> omega) | fail) only [push_cast, ↓reduceIte, Nat.reduceEqDiff, Nat.reduceAdd, Nat.reduceMul, Nat.reduceSub, Nat.reduceLT, Int.reduceToNat, h1']))
    all_goals (try exact ⟨⟨_, rfl, by omega, by omega, fun h5 => by omega⟩, hF⟩)
  · by_cases h2 : n ≤ 200
    · exact (c_spec_l1Cur_pick b c K h n hcu (by omega) (by omega) h2).mono (fun x h' hx => by
        obtain ⟨⟨m, rfl, m0, m1⟩, hs⟩ := hx
        exact ⟨⟨m, rfl, m0, by omega, fun _ => m1⟩, hs.f.mono (by omega)⟩) (fun _ _ h => h)
    · exact (c_spec_l1Cur_pick2B b c K h n hcu (by omega) (by omega) hn2).mono (fun x h' hx => by
        obtain ⟨⟨m, rfl, m0, m1⟩, hs⟩ := hx
        exact ⟨⟨m, rfl, m0, by omega, fun _ => m1⟩, hs.f⟩) (fun _ _ h => h)
theorem c_spec_l1Cur_limit (b : Nat) (c : Option (List UInt8)) (K : Nat) (h : H) (hcu : CurI h b c K) (hK : K ≤ 1000000) :
    Call Tryz.prog 31 [.adr b 0] h (fun b' => b' = b) (fun x g => (∃ n : Int, x = .int .i64 n ∧ -1 ≤ n ∧ n ≤ 100001) ∧ CurF h g b c (K + 5)) := by
  refine Call.cur hcu.lt ?_
  refine enter (by kernel_rfl) e31 (by kernel_rfl) rfl fun hok => ?_
  simp only [r31, initEnv_1]
  have hbl := hcu.lt
  have hfin : ∀ (g : H) (n : Int) (K' : Nat), CurF h g b c K' → K' ≤ K + 5 → -1 ≤ n → n ≤ 100001 → ∃ t, Vw g h.length (.int .i64 n) t ∧ (∃ n : Int, t = .int .i64 n ∧ -1 ≤ n ∧ n ≤ 100001) ∧ CurF h g b c (K + 5) := fun g n K' hF hk h1 h2 => ⟨_, .free free_int, ⟨n, rfl, h1, h2⟩, hF.mono hk⟩
  (try (simp (disch := first | omega | (simp <;> omega) | fail) only [push_cast, ↓reduceIte, Nat.reduceEqDiff, Nat.reduceAdd, Nat.reduceMul, Nat.reduceSub, Nat.reduceLT, Int.reduceToNat]))
  refine (c_spec_l1Cur_pick b c K h 8 hcu (by omega) (by omega) (by omega)).mono (fun x h1 hx => ?_) (fun b' _ hb' => Or.inl hb')
  obtain ⟨⟨k, rfl, k0, k1⟩, hs⟩ := hx
  have hF := hs.f
  by_cases z0 : k = 0
  · (try (simp (disch := first | omega | (simp <;> omega) | fail) only [push_cast, ↓reduceIte, Nat.reduceEqDiff, Nat.reduceAdd, Nat.reduceMul, Nat.reduceSub, Nat.reduceLT, Int.reduceToNat, z0]))
    refine ⟨rfl, ?_⟩
    have hM := (CurF.refl hs.2.2).more (l := [some (AObj.cells (([-1, 0, 1, 2, 100000, 100001] : List Int).map (.int .i64)))])
    refine (c_spec_l1Cur_among b c _ (h1 ++ [some (AObj.cells (([-1, 0, 1, 2, 100000, 100001] : List Int).map (.int .i64)))]) h1.length [-1, 0, 1, 2, 100000, 100001] hM.2.2 (by omega) (by decide) (by decide) (by rw [cells_h0]; rfl) (by have := hs.2.2.lt; omega)).mono (fun x h2 hx => ?_) (fun b' _ hb' => Or.inl hb')
    obtain ⟨⟨s, rfl, hsm⟩, hs2⟩ := hx
    have hF2 := (hF.trans hM).trans hs2.f
    have hsl : -1 ≤ s ∧ s ≤ 100001 := by
      simp at hsm
      omega
    (try (simp (disch := first | omega | (simp <;> omega) | fail) only [push_cast, ↓reduceIte, Nat.reduceEqDiff, Nat.reduceAdd, Nat.reduceMul, Nat.reduceSub, Nat.reduceLT, Int.reduceToNat]))
    all_goals (try exact hfin _ _ _ hF2 (by omega) hsl.1 hsl.2)
    done
  by_cases z1 : k = 1
  · (try (simp (disch := first | omega | (simp <;> omega) | fail) only [push_cast, ↓reduceIte, Nat.reduceEqDiff, Nat.reduceAdd, Nat.reduceMul, Nat.reduceSub, Nat.reduceLT, Int.reduceToNat, z1]))
    refine (c_spec_l1Cur_pickB b c _ h1 100000 hs.2.2 (by omega) (by omega)).mono (fun x h2 hx => ?_) (fun b' _ hb' => Or.inl hb')
    obtain ⟨⟨s, rfl, s0, s1, s2⟩, hF3⟩ := hx
    have s3 := s2 (by omega)
    have hF2 := hF.trans hF3
    (try (simp (disch := first | omega | (simp <;> omega) | fail) only [push_cast, ↓reduceIte, Nat.reduceEqDiff, Nat.reduceAdd, Nat.reduceMul, Nat.reduceSub, Nat.reduceLT, Int.reduceToNat]))
    all_goals (try exact hfin _ _ _ hF2 (by omega) (by omega) (by omega))
    done
  (try (simp (disch := first | omega | (simp <;> omega) | fail) only [push_cast, ↓reduceIte, Nat.reduceEqDiff, Nat.reduceAdd, Nat.reduceMul, Nat.reduceSub, Nat.reduceLT, Int.reduceToNat, z0, z1]))
  refine (c_spec_l1Cur_pick b c _ h1 150 hs.2.2 (by omega) (by omega) (by omega)).mono (fun x h2 hx => ?_) (fun b' _ hb' => Or.inl hb')
  obtain ⟨⟨s, rfl, s0, s1⟩, hs2⟩ := hx
  have hF2 := hF.trans hs2.f
  (try (simp (disch := first | omega | (simp <;> omega) | fail) only [push_cast, ↓reduceIte, Nat.reduceEqDiff, Nat.reduceAdd, Nat.reduceMul, Nat.reduceSub, Nat.reduceLT, Int.reduceToNat]))
  all_goals (try exact hfin _ _ _ hF2 (by omega) (by omega) (by omega))
  done

theorem c_spec_l1Most (a b : Int) : Fn Tryz.prog 72 [.int .i64 a, .int .i64 b] (· = .int .i64 (if b < a then a else b)) := by
  refine Fn.of free_int fun h => ?_
  refine enter (by kernel_rfl) e72 (by kernel_rfl) rfl fun hok => ?_
  simp only [r72, initEnv_2]
  (try (simp (disch := first | omega | (simp <;> omega) | fail) only [push_cast, ↓reduceIte, Nat.reduceEqDiff, Nat.reduceAdd, Nat.reduceMul, Nat.reduceSub, Nat.reduceLT, Int.reduceToNat]))
  first | refine goC_split (fun hc => ?_) (fun hc => ?_) | refine cnd_split (fun hc => ?_) (fun hc => ?_)
  · (try (simp only [decide_eq_true_eq, decide_eq_false_iff_not, Bool.not_eq_true', Bool.not_eq_false', Bool.and_eq_true, Bool.or_eq_true, Int.not_lt, Int.not_le] at hc)); (try (simp (disch := first | omega | (simp <;> omega) | fail) only [push_cast, ↓reduceIte, Nat.reduceEqDiff, Nat.reduceAdd, Nat.reduceMul, Nat.reduceSub, Nat.reduceLT, Int.reduceToNat]))
    all_goals (try rw [if_pos hc])
  · (try (simp only [decide_eq_true_eq, decide_eq_false_iff_not, Bool.not_eq_true', Bool.not_eq_false', Bool.and_eq_true, Bool.or_eq_true, Int.not_lt, Int.not_le] at hc)); (try (simp (disch := first | omega | (simp <;> omega) | fail) only [push_cast, ↓reduceIte, Nat.reduceEqDiff, Nat.reduceAdd, Nat.reduceMul, Nat.reduceSub, Nat.reduceLT, Int.reduceToNat]))
    all_goals (try rw [if_neg (by omega)])

theorem slc_twoI {h : H} {v : AV} {l : List Int} {B : List Nat} {i : Nat} (hS : S1 h 1 v l.length (l.map (.int .i64)) B) (hi : i ≤ l.length) (hl : l.length ≤ 10000) : ∃ x1 x2, slcA 1 none (some (.int .i64 i)) v = some x1 ∧ slcA 1 (some (.int .i64 i)) none v = some x2 ∧
    ∀ g : H, (∀ k, k < h.length → g[k]? = h[k]?) → srcCells g false 1 x1 = some ((l.take i).map (.int .i64), i) ∧ srcCells g false 1 x2 = some ((l.drop i).map (.int .i64), l.length - i) := by
  rcases hS.2 with ⟨rfl, h0, _⟩ | ⟨b, rfl, _, hc⟩
  · have hl0 : l = [] := List.eq_nil_of_length_eq_zero h0
    subst hl0
    have hi0 : i = 0 := by simpa using hi
    subst hi0
    exact ⟨.nils, .nils, rfl, rfl, fun g _ => ⟨rfl, rfl⟩⟩
  · refine ⟨.sl b 0 1 i l.length, .sl b i 1 (l.length - i) (l.length - i), ?_, ?_, fun g hg => ?_⟩
    · rw [slcA_sl, bndA_int (by omega) (by omega)]
      simp [bndA_none]
    · rw [slcA_sl, bndA_none, Option.bind_some, bndA_int (by omega) (by omega)]
      simp
    · have hcg := cells_keep (hg b (cells_lt hc)) hc
      rw [src_sl, src_sl, hcg]
      simp only [Option.bind_some, List.length_map, Nat.mul_one, Nat.zero_add, List.drop_zero]
      rw [if_pos hi, if_pos (by omega)]
      refine ⟨by rw [List.map_take], ?_⟩
      rw [← List.map_drop, List.take_of_length_le (by simp)]
theorem c_spec_l1Own_x (x1 : AV) (L : List Int) (h : H) (hsrc : ∀ g : H, (∀ k, k < h.length → g[k]? = h[k]?) → srcCells g false 1 x1 = some (L.map (.int .i64), L.length)) (hl : L.length ≤ 10000) :
    Call Tryz.prog 73 [x1] h Nowhere (fun x h' => h.length ≤ h'.length ∧ (∀ k, k < h.length → h'[k]? = h[k]?) ∧ ∃ B, S1 h' 1 x L.length (L.map (.int .i64)) B ∧ ∀ b ∈ B, h.length ≤ b) := by
  refine enter (by kernel_rfl) e73 (by kernel_rfl) rfl fun hok => ?_
  simp only [r73, initEnv_1]
  have hs0 : S1 (h ++ [some (.cells [])]) 1 (.sl h.length 0 1 0 0) 0 [] [h.length] := ⟨by simp, .inr ⟨h.length, rfl, rfl, by rw [cells_h0]; rfl⟩⟩
  (try (simp (disch := first | omega | (simp <;> omega) | fail) only [push_cast, ↓reduceIte, Nat.reduceEqDiff, Nat.reduceAdd, Nat.reduceMul, Nat.reduceSub, Nat.reduceLT, Int.reduceToNat]))
  rw [hsrc (h ++ [some (.cells [])]) fun k hk => List.getElem?_append_left hk]
  refine hs0.app0 (k := L.length) (by_ := 8) (fun b hb => Or.inr (by simp at hb; omega)) (by simp) (by omega) fun v1 h1 B1 a1 a2 a3 a4 a5 => ?_
  simp only [List.length_append, List.length_cons, List.length_nil] at a2 a3
  have k1 : ∀ k, k < h.length → h1[k]? = h[k]? := fun k hk => (a3 k (by omega) (by simp; omega)).trans (List.getElem?_append_left hk)
  have b1 : ∀ k ∈ B1, h.length ≤ k := fun k hk => by rcases a4 k hk with h5 | h5 <;> simp at h5 <;> omega
  have hS : S1 h1 1 v1 L.length (L.map (.int .i64)) B1 := by simpa using a1
  have hl1 : h.length ≤ h1.length := by omega
  (try (simp (disch := first | omega | (simp <;> omega) | fail) only [push_cast, ↓reduceIte, Nat.reduceEqDiff, Nat.reduceAdd, Nat.reduceMul, Nat.reduceSub, Nat.reduceLT, Int.reduceToNat]))
  all_goals (try exact ⟨k1, B1, hS, b1⟩)
  done

set_option maxHeartbeats 4000000 in
theorem c_spec_l1Cur_sorted (b : Nat) (c : Option (List UInt8)) (K : Nat) (h : H) (lim : Int) (hcu : CurI h b c K) (hK : K ≤ 1000000) (hl1 : -1 ≤ lim) (hl2 : lim ≤ 100001) :
    Call Tryz.prog 32 [.adr b 0, .int .i64 lim] h (fun b' => b' = b) (fun x g => (∃ o : Option (List Int), x = eI o ∧ (lI o).length ≤ 61) ∧ CurF h g b c (K + 300)) := by
  refine Call.cur hcu.lt ?_
  refine enter (by kernel_rfl) e32 (by kernel_rfl) rfl fun hok => ?_
  simp only [r32, initEnv_2]
  have hbl := hcu.lt
  generalize hIF : RCode.seq (.reg (⟨some 11, _, _⟩ :: _)) _ = IFC
  generalize hB2 : RCode.block 2 _ = B2
  generalize hLF : RCode.seq (.reg (⟨some 49, _, _⟩ :: _)) _ = LF
  (try (simp (disch := first | omega | (simp <;> omega) | fail) only [push_cast, ↓reduceIte, Nat.reduceEqDiff, Nat.reduceAdd, Nat.reduceMul, Nat.reduceSub, Nat.reduceLT, Int.reduceToNat]))
  refine (c_spec_l1Cur_pick b c K h 9 hcu (by omega) (by omega) (by omega)).mono (fun x h1 hx => ?_) (fun b' _ hb' => Or.inl hb')
  obtain ⟨⟨q, rfl, q0, q1⟩, hs⟩ := hx
  have hG1 : GrD (AV.int .i64) h h1 b c (K + 1) .nils [] := (GrD.start hcu).step hs.f
  (try (simp (disch := first | omega | (simp <;> omega) | fail) only [push_cast, ↓reduceIte, Nat.reduceEqDiff, Nat.reduceAdd, Nat.reduceMul, Nat.reduceSub, Nat.reduceLT, Int.reduceToNat]))
  refine T_cut (fun e g => ∃ n : Nat, Pins e [(0, .adr b 0), (1, .int .i64 lim), (5, .nils), (6, .int .i64 n)] ∧ GrD (AV.int .i64) h g b c (K + 3) .nils [] ∧ n ≤ 61) ?_ ?_
  · rw [← hIF]
    clear hIF hB2 hLF
    (try (simp (disch := first | omega | (simp <;> omega) | fail) only [push_cast, ↓reduceIte, Nat.reduceEqDiff, Nat.reduceAdd, Nat.reduceMul, Nat.reduceSub, Nat.reduceLT, Int.reduceToNat]))
    refine (c_spec_l1Cur_one b c _ h1 24 hs.2.2 (by omega) (by omega) (by omega)).mono (fun x g1 hx => ?_) (fun b' _ hb' => Or.inl hb')
    obtain ⟨⟨t, rfl⟩, hs1⟩ := hx
    have hG2 := hG1.step hs1.f
    cases t
    · obtain ⟨n, rfl⟩ : ∃ n : Nat, q = (n : Int) := ⟨q.toNat, by omega⟩
      have hG3 := hG2.mono (K' := K + 3) (by omega)
      (try (simp (disch := first | omega | (simp <;> omega) | fail) only [push_cast, ↓reduceIte, Nat.reduceEqDiff, Nat.reduceAdd, Nat.reduceMul, Nat.reduceSub, Nat.reduceLT, Int.reduceToNat]))
      all_goals (try exact ⟨n, rfl, hG3, by omega⟩)
      done
    · (try (simp (disch := first | omega | (simp <;> omega) | fail) only [push_cast, ↓reduceIte, Nat.reduceEqDiff, Nat.reduceAdd, Nat.reduceMul, Nat.reduceSub, Nat.reduceLT, Int.reduceToNat]))
      refine (c_spec_l1Cur_pick b c _ g1 2 hG2.1.2.2 (by omega) (by omega) (by omega)).mono (fun x g2 hx => ?_) (fun b' _ hb' => Or.inl hb')
      obtain ⟨⟨m, rfl, m0, m1⟩, hs2⟩ := hx
      have hG3 := hG2.step hs2.f
      obtain ⟨n, hn⟩ : ∃ n : Nat, 60 + m = (n : Int) := ⟨(60 + m).toNat, by omega⟩
      (try (simp (disch := first | omega | (simp <;> omega) | fail) only [push_cast, ↓reduceIte, Nat.reduceEqDiff, Nat.reduceAdd, Nat.reduceMul, Nat.reduceSub, Nat.reduceLT, Int.reduceToNat, hn]))
      all_goals (try exact ⟨n, rfl, hG3, by omega⟩)
      done
  clear hIF hs hG1
  rintro e g0 ⟨n, hp, hG0, hn61⟩
  refine T_pins hp fun e => ?_
  (try (simp (disch := first | omega | (simp <;> omega) | fail) only [push_cast, ↓reduceIte, Nat.reduceEqDiff, Nat.reduceAdd, Nat.reduceMul, Nat.reduceSub, Nat.reduceLT, Int.reduceToNat]))
  refine T_for n (fun i e g => ∃ v L, Pins e [(0, .adr b 0), (1, .int .i64 lim), (5, v), (6, .int .i64 ((n : Int) - i))] ∧ (GrD (AV.int .i64) h g b c (K + 3 + 2 * i) v L ∧ L.length = i)) ?_ ?_
  · refine ⟨.nils, [], ?_⟩
    (try (simp (disch := first | omega | (simp <;> omega) | fail) only [push_cast, ↓reduceIte, Nat.reduceEqDiff, Nat.reduceAdd, Nat.reduceMul, Nat.reduceSub, Nat.reduceLT, Int.reduceToNat]))
    all_goals (try exact ⟨by simp, hG0, rfl⟩)
    all_goals (try exact ⟨hG0, rfl⟩)
    all_goals (try exact hG0)
    done
  clear hG0 hp
  rintro i e g hi ⟨v, L, hp, hG, hLi⟩
  refine T_pins hp fun e => ?_
  by_cases hin : i < n
  · have e1 : (0 < (n : Int) - (i : Int)) = True := eq_true (by omega)
    (try (simp (disch := first | omega | (simp <;> omega) | fail) only [push_cast, ↓reduceIte, Nat.reduceEqDiff, Nat.reduceAdd, Nat.reduceMul, Nat.reduceSub, Nat.reduceLT, Int.reduceToNat, e1]))
    refine (c_spec_l1Most lim 1).call ?_
    obtain ⟨mx, hmx⟩ : ∃ mx, mx = (if (1 : Int) < lim then lim else 1) := ⟨_, rfl⟩
    have hmx2 : 1 ≤ mx ∧ mx ≤ 100001 := by rw [hmx]; split <;> omega
    rw [← hmx]
    clear hmx
    (try (simp (disch := first | omega | (simp <;> omega) | fail) only [push_cast, ↓reduceIte, Nat.reduceEqDiff, Nat.reduceAdd, Nat.reduceMul, Nat.reduceSub, Nat.reduceLT, Int.reduceToNat]))
    refine (c_spec_l1Cur_pickB b c _ g mx hG.1.2.2 (by omega) (by omega)).mono (fun x g1 hx => ?_) (fun b' _ hb' => Or.inl hb')
    obtain ⟨⟨x, rfl, x0, _, _⟩, hF1⟩ := hx
    have hG1 := hG.step hF1
    have hlv := hG1.lenA
    (try (simp (disch := first | omega | (simp <;> omega) | fail) only [push_cast, ↓reduceIte, Nat.reduceEqDiff, Nat.reduceAdd, Nat.reduceMul, Nat.reduceSub, Nat.reduceLT, Int.reduceToNat]))
    refine T_cut (fun e g => ∃ k : Nat, Pins e [(0, .adr b 0), (1, .int .i64 lim), (5, v), (6, .int .i64 ((n : Int) - i)), (7, .int .i64 x), (8, .int .i64 k)] ∧ (g1 = g ∧ k ≤ L.length)) ?_ ?_
    · rw [← hB2]
      clear hB2 hLF
      (try (simp (disch := first | omega | (simp <;> omega) | fail) only [push_cast, ↓reduceIte, Nat.reduceEqDiff, Nat.reduceAdd, Nat.reduceMul, Nat.reduceSub, Nat.reduceLT, Int.reduceToNat]))
      refine T_for L.length (fun k e g => Pins e [(0, .adr b 0), (1, .int .i64 lim), (5, v), (6, .int .i64 ((n : Int) - i)), (7, .int .i64 x), (8, .int .i64 k)] ∧ g1 = g) ?_ ?_
      · (try (simp (disch := first | omega | (simp <;> omega) | fail) only [push_cast, ↓reduceIte, Nat.reduceEqDiff, Nat.reduceAdd, Nat.reduceMul, Nat.reduceSub, Nat.reduceLT, Int.reduceToNat]))
        done
      rintro k e g2 hk ⟨hp, rfl⟩
      refine T_pins hp fun e => ?_
      by_cases hkl : k < L.length
      · obtain ⟨_, _, B, hS, hB⟩ := id hG1
        rcases hS.2 with ⟨_, h0, _⟩ | ⟨bv, hv, _, hcb⟩
        · omega
        have hia : iaddrA 1 v (.int .i64 k) = some (.adr bv k) := by
          rw [hv, iaddrA_sl (by omega) (by omega)]
          simp
        have hget : (L.map (AV.int .i64))[k]? = some (.int .i64 (L.getD k 0)) := by simp [hkl]
        have e2 : ((k : Int) < (L.length : Int)) = True := eq_true (by omega)
        by_cases hle : L.getD k 0 ≤ x
        · have e3 : (L.getD k 0 ≤ x) = True := eq_true hle
          (try (simp (disch := first | omega | (simp <;> omega) | fail) only [push_cast, ↓reduceIte, Nat.reduceEqDiff, Nat.reduceAdd, Nat.reduceMul, Nat.reduceSub, Nat.reduceLT, Int.reduceToNat, hlv, e2, hia, hcb, hget, e3]))
          all_goals (try omega)
          done
        · have e3 : (L.getD k 0 ≤ x) = False := eq_false hle
          (try (simp (disch := first | omega | (simp <;> omega) | fail) only [push_cast, ↓reduceIte, Nat.reduceEqDiff, Nat.reduceAdd, Nat.reduceMul, Nat.reduceSub, Nat.reduceLT, Int.reduceToNat, hlv, e2, hia, hcb, hget, e3]))
          all_goals (try exact ⟨k, rfl, by omega⟩)
          done
      · have e2 : ((k : Int) < (L.length : Int)) = False := eq_false (by omega)
        (try (simp (disch := first | omega | (simp <;> omega) | fail) only [push_cast, ↓reduceIte, Nat.reduceEqDiff, Nat.reduceAdd, Nat.reduceMul, Nat.reduceSub, Nat.reduceLT, Int.reduceToNat, hlv, e2]))
        all_goals (try exact ⟨k, rfl, by omega⟩)
        done
    rintro e g2 ⟨k, hp, rfl, hkl⟩
    refine T_pins hp fun e => ?_
    clear hB2
    have hl10 : L.length ≤ 100 := by omega
    obtain ⟨p1, p2, B, hS, hB⟩ := id hG1
    obtain ⟨x1, x2, hx1, hx2, hsrc⟩ := slc_twoI hS hkl (by omega)
    have hlk : (L.take k).length = k := by rw [List.length_take]; omega
    have hgl := p1.1
    have hown : ∀ g' : H, g1.length ≤ g'.length → (∀ q, q < g1.length → g'[q]? = g1[q]?) → Call Tryz.prog 73 [x1] g' Nowhere (fun y g3 => g'.length ≤ g3.length ∧ (∀ q, q < g'.length → g3[q]? = g'[q]?) ∧ ∃ B, S1 g3 1 y (L.take k).length ((L.take k).map (.int .i64)) B ∧ ∀ b ∈ B, g'.length ≤ b) := fun g' hg1 hg2 =>
      c_spec_l1Own_x x1 (L.take k) g' (fun g2 hg' => by
        rw [hlk]
        exact (hsrc g2 fun q hq => (hg' q (by omega)).trans (hg2 q hq)).1) (by omega)
    have hL3 : (((L.take k).map (AV.int .i64) ++ [.int .i64 x]) ++ (L.drop k).map (AV.int .i64)) = (L.take k ++ [x] ++ L.drop k).map (.int .i64) := by simp
    have hn3 : k + 1 + (L.length - k) = (L.take k ++ [x] ++ L.drop k).length := by simp; omega
    have hlen3 : (L.take k ++ [x] ++ L.drop k).length = i + 1 := by simp; omega
    have fin : ∀ (g5 : H) (v5 : AV) (B5 : List Nat), (∀ q, q < g1.length → g5[q]? = g1[q]?) → g1.length ≤ g5.length → S1 g5 1 v5 (k + 1 + (L.length - k)) ((((L.take k).map (AV.int .i64) ++ [.int .i64 x]) ++ (L.drop k).map (AV.int .i64))) B5 → (∀ b ∈ B5, g1.length ≤ b) → GrD (AV.int .i64) h g5 b c (K + 3 + 2 * (i + 1)) v5 (L.take k ++ [x] ++ L.drop k) := fun g5 v5 B5 h5 h6 hS5 hB5 => by
      rw [hL3, hn3] at hS5
      exact ⟨⟨by omega, fun q hq hn => (h5 q (by omega)).trans (p1.2.1 q hq hn), (p1.2.2.mono (by omega)).frame (h5 b (by omega))⟩, p2, B5, hS5, fun q hq => by have := hB5 q hq; omega⟩
    (try (simp (disch := first | omega | (simp <;> omega) | fail) only [push_cast, ↓reduceIte, Nat.reduceEqDiff, Nat.reduceAdd, Nat.reduceMul, Nat.reduceSub, Nat.reduceLT, Int.reduceToNat, hx1, hx2, reads, List.mem_cons, List.mem_append, List.not_mem_nil, nat_ff, or_self, or_false, false_or, not_false_eq_true]))
    refine ⟨?_, ?_⟩
    · refine (hown g1 (Nat.le_refl _) fun _ _ => rfl).mono (fun y g3 hy => ?_) (fun _ _ h => h.elim)
      obtain ⟨a1, a2, B1, hS1, hB1⟩ := hy
      rw [hlk] at hS1
      (try (simp (disch := first | omega | (simp <;> omega) | fail) only [push_cast, ↓reduceIte, Nat.reduceEqDiff, Nat.reduceAdd, Nat.reduceMul, Nat.reduceSub, Nat.reduceLT, Int.reduceToNat, reads, List.mem_cons, List.mem_append, List.not_mem_nil, nat_ff, or_self, or_false, false_or, not_false_eq_true]))
      refine (hS1.frame (h' := g3 ++ _) fun c hc => List.getElem?_append_left (hS1.lt c hc)).app0 (new := [.int .i64 x]) (k := 1) (by_ := 8) (fun q hq => by have := hB1 q hq; first | exact Or.inr (by omega) | exact ⟨Or.inr (by omega), by simp⟩) rfl (by omega) fun v4 g4 B4 d1 d2 d3 d4 d5 => ?_
      simp only [List.length_append, List.length_cons, List.length_nil] at d2 d3 d4
      have k4 : ∀ q, q < g1.length → g4[q]? = g1[q]? := fun q hq => (d3 q (by omega) fun h5 => by have := hB1 q h5; omega).trans ((List.getElem?_append_left (by omega)).trans (a2 q hq))
      have hB4 : ∀ q ∈ B4, g1.length ≤ q := fun q hq => by
        rcases d4 q hq with h5 | h5
        · exact hB1 q h5
        · omega
      (try (simp (disch := first | omega | (simp <;> omega) | fail) only [push_cast, ↓reduceIte, Nat.reduceEqDiff, Nat.reduceAdd, Nat.reduceMul, Nat.reduceSub, Nat.reduceLT, Int.reduceToNat, reads, List.mem_cons, List.mem_append, List.not_mem_nil, nat_ff, or_self, or_false, false_or, not_false_eq_true]))
      rw [(hsrc g4 k4).2]
      refine d1.app0 (k := L.length - k) (by_ := 8) (fun q hq => by have := hB4 q hq; first | exact Or.inr (by omega) | exact ⟨Or.inr (by omega), by simp⟩) (by simp) (by omega) fun v5 g5 B5 f1 f2 f3 f4 f5 => ?_
      have k5 : ∀ q, q < g1.length → g5[q]? = g1[q]? := fun q hq => (f3 q (by omega) fun h5 => by have := hB4 q h5; omega).trans (k4 q hq)
      have hB5 : ∀ q ∈ B5, g1.length ≤ q := fun q hq => by
        rcases f4 q hq with h5 | h5
        · exact hB4 q h5
        · omega
      have hG5 := fin g5 v5 B5 k5 (by omega) f1 hB5
      have hni : (n : Int) - (i : Int) - 1 = (n : Int) - ((i : Int) + 1) := by omega
      (try (simp (disch := first | omega | (simp <;> omega) | fail) only [push_cast, ↓reduceIte, Nat.reduceEqDiff, Nat.reduceAdd, Nat.reduceMul, Nat.reduceSub, Nat.reduceLT, Int.reduceToNat, hni]))
      all_goals (try exact ⟨_, _, rfl, hG5, hlen3⟩)
      all_goals (try exact ⟨_, hG5, hlen3⟩)
      done
    · refine (hown (g1 ++ [some (.cells [.int .i64 x])]) (by simp) fun q hq => List.getElem?_append_left hq).mono (fun y g3 hy => ?_) (fun _ _ h => h.elim)
      obtain ⟨a1, a2, B1, hS1, hB1⟩ := hy
      simp only [List.length_append, List.length_cons, List.length_nil] at a1 a2 hB1
      rw [hlk] at hS1
      have hcx : g3.cells g1.length = some [.int .i64 x] := cells_keep (a2 g1.length (by omega)) (by rw [cells_h0]; rfl)
      (try (simp (disch := first | omega | (simp <;> omega) | fail) only [push_cast, ↓reduceIte, Nat.reduceEqDiff, Nat.reduceAdd, Nat.reduceMul, Nat.reduceSub, Nat.reduceLT, Int.reduceToNat, hcx, reads, List.mem_cons, List.mem_append, List.not_mem_nil, nat_ff, or_self, or_false, false_or, not_false_eq_true]))
      refine hS1.app0 (new := [.int .i64 x]) (k := 1) (by_ := 8) (fun q hq => by have := hB1 q hq; first | exact Or.inr (by omega) | exact ⟨Or.inr (by omega), by simp⟩) rfl (by omega) fun v4 g4 B4 d1 d2 d3 d4 d5 => ?_
      have k4 : ∀ q, q < g1.length → g4[q]? = g1[q]? := fun q hq => (d3 q (by omega) fun h5 => by have := hB1 q h5; omega).trans ((a2 q (by omega)).trans (List.getElem?_append_left hq))
      have hB4 : ∀ q ∈ B4, g1.length ≤ q := fun q hq => by
        rcases d4 q hq with h5 | h5
        · have := hB1 q h5
          omega
        · omega
      (try (simp (disch := first | omega | (simp <;> omega) | fail) only [push_cast, ↓reduceIte, Nat.reduceEqDiff, Nat.reduceAdd, Nat.reduceMul, Nat.reduceSub, Nat.reduceLT, Int.reduceToNat, reads, List.mem_cons, List.mem_append, List.not_mem_nil, nat_ff, or_self, or_false, false_or, not_false_eq_true]))
      rw [(hsrc g4 k4).2]
      refine d1.app0 (k := L.length - k) (by_ := 8) (fun q hq => by have := hB4 q hq; first | exact Or.inr (by omega) | exact ⟨Or.inr (by omega), by simp⟩) (by simp) (by omega) fun v5 g5 B5 f1 f2 f3 f4 f5 => ?_
      have k5 : ∀ q, q < g1.length → g5[q]? = g1[q]? := fun q hq => (f3 q (by omega) fun h5 => by have := hB4 q h5; omega).trans (k4 q hq)
      have hB5 : ∀ q ∈ B5, g1.length ≤ q := fun q hq => by
        rcases f4 q hq with h5 | h5
        · exact hB4 q h5
        · omega
      have hG5 := fin g5 v5 B5 k5 (by omega) f1 hB5
      have hni : (n : Int) - (i : Int) - 1 = (n : Int) - ((i : Int) + 1) := by omega
      (try (simp (disch := first | omega | (simp <;> omega) | fail) only [push_cast, ↓reduceIte, Nat.reduceEqDiff, Nat.reduceAdd, Nat.reduceMul, Nat.reduceSub, Nat.reduceLT, Int.reduceToNat, hni]))
      all_goals (try exact ⟨_, _, rfl, hG5, hlen3⟩)
      all_goals (try exact ⟨_, hG5, hlen3⟩)
      done
  · have e1 : (0 < (n : Int) - (i : Int)) = False := eq_false (by omega)
    (try (simp (disch := first | omega | (simp <;> omega) | fail) only [push_cast, ↓reduceIte, Nat.reduceEqDiff, Nat.reduceAdd, Nat.reduceMul, Nat.reduceSub, Nat.reduceLT, Int.reduceToNat, e1]))
    rw [← hLF]
    clear hLF hB2
    have hfin : ∀ (g' : H) (K' : Nat) (v' : AV) (L' : List Int), GrD (AV.int .i64) h g' b c K' v' L' → K' ≤ K + 300 → L'.length ≤ 61 → ∃ t, Vw g' h.length v' t ∧ (∃ o : Option (List Int), t = eI o ∧ (lI o).length ≤ 61) ∧ CurF h g' b c (K + 300) := by
      intro g' K' v' L' hG' hK' hl
      obtain ⟨f1, f2, B, f3, f4⟩ := hG'
      have hv : ∃ o, Vw g' h.length v' (eI o) ∧ lI o = L' := by
        rcases f3.2 with ⟨rfl, h0, rfl⟩ | ⟨bq, rfl, rfl, hc⟩
        · exact ⟨none, .free free_nils, (List.eq_nil_of_length_eq_zero h0).symm⟩
        · exact ⟨some L', vw_all (f4 bq (by simp)) hc (by simp) (one_map fun _ => rfl) (free_map_ fun _ => free_int), rfl⟩
      obtain ⟨o, ho, hol⟩ := hv
      exact ⟨_, ho, ⟨o, rfl, by rw [hol]; exact hl⟩, f1.mono hK'⟩
    have hlv := hG.lenA
    (try (simp (disch := first | omega | (simp <;> omega) | fail) only [push_cast, ↓reduceIte, Nat.reduceEqDiff, Nat.reduceAdd, Nat.reduceMul, Nat.reduceSub, Nat.reduceLT, Int.reduceToNat]))
    refine (c_spec_l1Cur_one b c _ g 12 hG.1.2.2 (by omega) (by omega) (by omega)).mono (fun x g1 hx => ?_) (fun b' _ hb' => Or.inl hb')
    obtain ⟨⟨t, rfl⟩, hs⟩ := hx
    have hG1 := hG.step hs.f
    cases t
    · (try (simp (disch := first | omega | (simp <;> omega) | fail) only [push_cast, ↓reduceIte, Nat.reduceEqDiff, Nat.reduceAdd, Nat.reduceMul, Nat.reduceSub, Nat.reduceLT, Int.reduceToNat, hlv]))
      all_goals (try exact hfin _ _ _ _ hG1 (by omega) (by omega))
      done
    · by_cases h0 : 0 < L.length
      · have e0 : (0 < (L.length : Int)) = True := eq_true (by omega)
        (try (simp (disch := first | omega | (simp <;> omega) | fail) only [push_cast, ↓reduceIte, Nat.reduceEqDiff, Nat.reduceAdd, Nat.reduceMul, Nat.reduceSub, Nat.reduceLT, Int.reduceToNat, hlv, e0]))
        refine (c_spec_l1Cur_pickAny b c _ g1 (L.length : Int) hG1.1.2.2 (by omega) (by omega)).mono (fun x g2 hx => ?_) (fun b' _ hb' => Or.inl hb')
        obtain ⟨⟨m, rfl, m0, m1⟩, hs2⟩ := hx
        obtain ⟨m, rfl⟩ : ∃ m' : Nat, m = (m' : Int) := ⟨m.toNat, by omega⟩
        have hml : m < L.length := by omega
        have hG2 := hG1.step hs2.f
        (try (simp (disch := first | omega | (simp <;> omega) | fail) only [push_cast, ↓reduceIte, Nat.reduceEqDiff, Nat.reduceAdd, Nat.reduceMul, Nat.reduceSub, Nat.reduceLT, Int.reduceToNat]))
        refine ⟨rfl, ?_⟩
        have hM := (CurF.refl hG2.1.2.2).more (l := [some (AObj.cells (([-1, 0, lim, lim - 1] : List Int).map (.int .i64)))])
        refine (c_spec_l1Cur_among b c _ (g2 ++ [some (AObj.cells (([-1, 0, lim, lim - 1] : List Int).map (.int .i64)))]) g2.length [-1, 0, lim, lim - 1] hM.2.2 (by omega) (by simp) (by simp) (by rw [cells_h0]; rfl) (by have := hG2.1.2.2.lt; omega)).mono (fun x g3 hx => ?_) (fun b' _ hb' => Or.inl hb')
        obtain ⟨⟨q, rfl, _⟩, hs3⟩ := hx
        have hG3 := (hG2.step hM).step hs3.f
        obtain ⟨r1, r2, B, hS, hB⟩ := id hG3
        rcases hS.2 with ⟨_, h00, _⟩ | ⟨bv, hv, hBb, hcb⟩
        · omega
        have hbv := hB bv (by rw [hBb]; simp)
        have hia : iaddrA 1 v (.int .i64 m) = some (.adr bv m) := by
          rw [hv, iaddrA_sl (by omega) (by omega)]
          simp
        have hov : over (L.map (AV.int .i64)) m [.int .i64 q] = (L.set m q).map (.int .i64) := by rw [over_set (by simp; omega), List.map_set]
        have hll : (L.map (AV.int .i64)).length = L.length := by simp
        have hpm : (h.length ≤ bv) = True := eq_true (by omega)
        have hwk : ∀ (cs : List AV) c, c ≠ bv → (wr g3 bv cs)[c]? = g3[c]? := fun cs c hc => by
          unfold wr
          rw [List.getElem?_set_ne (Ne.symm hc)]
        have hG4 : GrD (AV.int .i64) h (wr g3 bv ((L.set m q).map (.int .i64))) b c (K + 3 + 2 * i + 1 + 1 + 1) v (L.set m q) :=
          ⟨⟨by simpa [wr] using r1.1, fun c hc hn => (hwk _ c (by omega)).trans (r1.2.1 c hc hn), (r1.2.2.mono (by omega)).frame (hwk _ b (by omega))⟩, r2, [bv], by rw [List.length_set]; exact ⟨by simp, .inr ⟨bv, hv, rfl, cells_wr2 (cells_lt hcb)⟩⟩, by simpa using hbv⟩
        have hl61 : (L.set m q).length ≤ 61 := by rw [List.length_set]; omega
        (try (simp (disch := first | omega | (simp <;> omega) | fail) only [push_cast, ↓reduceIte, Nat.reduceEqDiff, Nat.reduceAdd, Nat.reduceMul, Nat.reduceSub, Nat.reduceLT, Int.reduceToNat, hia, hcb, hov, hll, hpm, hlv, reads, List.mem_cons, List.mem_append, List.not_mem_nil, nat_ff, or_self, or_false, false_or, not_false_eq_true]))
        all_goals (try exact hfin _ _ _ _ hG4 (by omega) hl61)
        done
      · have e0 : (0 < (L.length : Int)) = False := eq_false (by omega)
        (try (simp (disch := first | omega | (simp <;> omega) | fail) only [push_cast, ↓reduceIte, Nat.reduceEqDiff, Nat.reduceAdd, Nat.reduceMul, Nat.reduceSub, Nat.reduceLT, Int.reduceToNat, hlv, e0]))
        all_goals (try exact hfin _ _ _ _ hG1 (by omega) (by omega))
        done

end Go.Proofs.YtbkcenkfecndjaaGreatDoor.M
