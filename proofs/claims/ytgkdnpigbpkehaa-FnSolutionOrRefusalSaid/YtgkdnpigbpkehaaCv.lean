/-
  What the functions return.
-/
import Derived.Test.YtgkdnpigbpkehaaFv
import Derived.Test.YtgkdnpigbpkehaaCu
namespace Go.Proofs.Ytgkdnpigbpkehaa.M
open Go Go.RowKit
set_option linter.unusedVariables false
set_option linter.unusedSimpArgs false
set_option maxRecDepth 4000

theorem c_spec_reSolve (s : Sy) (m : Nat) (ho : OkE s (nSy s) m) (hk : okSy s = true) : Fn Try.prog 77 [eSy s] (· = solV s) := by
  refine Fn.froze_ fun h => ?_
  unfold solV solB solq
  have hmm := ho.mm
  have hnone : (setL (ofN (nSy s) (refN s))).length = 0 ↔ refN s = 0 := (ho.msk (i := (lB s.rows).length) (Nat.le_refl _)).none (by have := ho.nr; omega)
  unfold solN
  refine enter (by kernel_rfl) e77 (by kernel_rfl) rfl fun hok => ?_
  simp only [r77, initEnv_1]
  have hsz := ho.sz
  have hn1 := ho.n1
  have hn2 := ho.n2
  have hm := ho.hm
  have hnr := ho.nr
  have hlen := stS_len (s := s) (n := nSy s) (i := (lB s.rows).length)
  (try (simp (disch := first | omega | (simp <;> omega) | fail) only [push_cast, ↓reduceIte, Nat.reduceEqDiff, Nat.reduceAdd, Nat.reduceMul, Nat.reduceSub, Nat.reduceLT, Int.reduceToNat]))
  refine (c_spec_reLines s _ m ho).call ?_
  unfold linesV
  have hL : (stS s (nSy s) (lB s.rows).length).1 = linS s := rfl
  have hR : (stS s (nSy s) (lB s.rows).length).2 >>> (nSy s + 1) = ofN (nSy s) (refN s) := rfl
  rw [hL] at hlen
  rw [hL, hR]
  rw [← hmm]
  generalize nSy s = n at *
  generalize linS s = L at *
  generalize ofN n (refN s) = R at *
  clear hL hR
  by_cases h0 : refN s = 0
  · have hz : ¬ (0 : Int) < ((lI (optL (setL R))).length : Int) := by
      rw [lI_optL]
      have := hnone.2 h0
      omega
    have hcond : (okSy s = true ∧ refN s = 0) = True := by simp [hk, h0]
    have hq : (okSy s && decide (refN s = 0)) = true := by simp [hk, h0]
    rw [hq]
    simp only [hcond, if_true]
    (try (simp (disch := first | omega | (simp <;> omega) | fail) only [push_cast, ↓reduceIte, Nat.reduceEqDiff, Nat.reduceAdd, Nat.reduceMul, Nat.reduceSub, Nat.reduceLT, Int.reduceToNat, hz, hsz]))
    refine (c_spec_biNew_own n m (by omega) hm _).mono (fun x h1 hx => ?_) (fun _ _ h => h.elim)
    obtain ⟨bb, rfl, hbb, ⟨p, hp⟩, hcb⟩ := hx
    have hbb2 : h.length + 2 ≤ bb := by simp at hbb; omega
    have f2 : h1.cells (h.length + 1) = some [.int .i64 0, .nils] := by
      rw [hp]
      refine cells_app ?_
      rw [cells_hk]
      rfl
    have hl1 : h.length + 2 ≤ h1.length := by rw [hp]; simp
    clear hp
    (try (simp (disch := first | omega | (simp <;> omega) | fail) only [push_cast, ↓reduceIte, Nat.reduceEqDiff, Nat.reduceAdd, Nat.reduceMul, Nat.reduceSub, Nat.reduceLT, Int.reduceToNat]))
    refine (c_spec_reFill n m bb 0 L true h1 hcb (by omega) (by omega) (by omega) hn1).mono (fun y h2 hy => ?_) (fun b' _ hb' => Or.inr (by omega))
    obtain ⟨rfl, y1, y2, y3⟩ := hy
    have f3 := cells_keep (y3 (h.length + 1) (by omega) (by omega)) f2
    have hw := cells_wr2 (h := h2) (b := h.length + 1) (by omega) (cs := [AV.int .i64 (n : Int), .sl bb 0 1 m m])
    have hpm : (h.length ≤ h.length + 1) = True := by simp
    (try (simp (disch := first | omega | (simp <;> omega) | fail) only [push_cast, ↓reduceIte, Nat.reduceEqDiff, Nat.reduceAdd, Nat.reduceMul, Nat.reduceSub, Nat.reduceLT, Int.reduceToNat, f3, hpm, hw]))
    refine ⟨.tup [eB ⟨n, some (wordsN (fillS n true L 0 n) m)⟩, .bool true], .tup rfl fun k y t hy ht => ?_, rfl⟩
    rcases k with _ | _ | k
    · simp at hy ht
      subst hy ht
      refine vw_B (by omega) (b := bb) (ws := wordsN (fillS n true L 0 n) m) ?_ wordsN_len
      rw [cells_eq]
      unfold wr
      rw [List.getElem?_set_ne (by omega), ← cells_eq]
      exact y2
    · simp at hy ht
      subst hy ht
      exact .free free_bool
    · simp at hy
  · have hz : (0 : Int) < ((lI (optL (setL R))).length : Int) := by
      rw [lI_optL]
      have : (setL R).length ≠ 0 := fun h5 => h0 (hnone.1 h5)
      omega
    have hcond : (okSy s = true ∧ refN s = 0) = False := by simp [h0]
    have hq : (okSy s && decide (refN s = 0)) = false := by simp [h0]
    rw [hq]
    simp only [hcond, if_false]
    (try (simp (disch := first | omega | (simp <;> omega) | fail) only [push_cast, ↓reduceIte, Nat.reduceEqDiff, Nat.reduceAdd, Nat.reduceMul, Nat.reduceSub, Nat.reduceLT, Int.reduceToNat, hz]))
    exact ⟨_, .free (free_tup (free_cons_ (free_eB (b := ⟨0, none⟩)) (free_cons_ free_bool free_nil_))), rfl⟩

/-- Two results in boxes, the cursor, a value's box. -/
def Bx2 (h g : H) (c : Option (List UInt8)) (K b5 : Nat) (cs : List AV) : Prop := (g.cells h.length = some [.int .i64 0, .nils, .nils] ∧ g.cells (h.length + 1) = some [.int .i64 0, .nils]) ∧ CurI g (h.length + 2) c K ∧ g.cells b5 = some cs ∧ h.length + 3 ≤ b5
theorem Bx2.keep {h g g2 : H} {c : Option (List UInt8)} {K K' b5 : Nat} {cs : List AV} (hb : Bx2 h g c K b5 cs) (hk : ∀ k, k = h.length ∨ k = h.length + 1 ∨ k = b5 → g2[k]? = g[k]?) (hc : CurI g2 (h.length + 2) c K') : Bx2 h g2 c K' b5 cs :=
  ⟨⟨cells_keep (hk _ (.inl rfl)) hb.1.1, cells_keep (hk _ (.inr (.inl rfl))) hb.1.2⟩, hc, cells_keep (hk _ (.inr (.inr rfl))) hb.2.2.1, hb.2.2.2⟩
theorem Bx2.step {h g g2 : H} {c : Option (List UInt8)} {K K' b5 : Nat} {cs : List AV} (hb : Bx2 h g c K b5 cs) (hs : CurS g g2 (h.length + 2) c K') : Bx2 h g2 c K' b5 cs :=
  hb.keep (fun k hk => hs.2.1 k (by have := hb.2.2.2; omega)) hs.2.2
theorem Bx2.mono {h g : H} {c : Option (List UInt8)} {K K' b5 : Nat} {cs : List AV} (hb : Bx2 h g c K b5 cs) (hk : K ≤ K') : Bx2 h g c K' b5 cs := ⟨hb.1, hb.2.1.mono hk, hb.2.2⟩
theorem Bx2.more {h g l : H} {c : Option (List UInt8)} {K b5 : Nat} {cs : List AV} (hb : Bx2 h g c K b5 cs) : Bx2 h (g ++ l) c K b5 cs :=
  ⟨⟨cells_app hb.1.1, cells_app hb.1.2⟩, hb.2.1.frame (List.getElem?_append_left hb.2.1.lt), cells_app hb.2.2.1, hb.2.2.2⟩
theorem wr_two {g : H} {n : Nat} {A B a b : List AV} (c0 : g.cells n = some a) (c1 : g.cells (n + 1) = some b) :
    H.cells (wr g n A) (n + 1) = some b ∧ H.cells (wr (wr g n A) (n + 1) B) n = some A ∧ H.cells (wr (wr g n A) (n + 1) B) (n + 1) = some B ∧ ∀ k, k ≠ n → k ≠ n + 1 → (wr (wr g n A) (n + 1) B)[k]? = g[k]? := by
  have l0 := cells_lt c0
  have l1 := cells_lt c1
  have h1 : ∀ (g : H) (n k : Nat) (cs : List AV), k ≠ n → (wr g n cs)[k]? = g[k]? := fun g n k cs hk => by
    unfold wr
    rw [List.getElem?_set_ne (Ne.symm hk)]
  exact ⟨cells_keep (h1 _ _ _ _ (by omega)) c1, cells_keep (h1 _ _ _ _ (by omega)) (cells_wr2 l0), cells_wr2 (by simp [wr]; omega), fun k hk hk1 => (h1 _ _ _ _ hk1).trans (h1 _ _ _ _ hk)⟩

set_option maxHeartbeats 2000000 in
theorem c_spec_DrawIsSolution (c : Option (List UInt8)) : Fn Try.prog 51 [eU c] (fun x => ∃ (s : Sy) (b : Bt), x = .tup [eSy s, eB b]) := by
  refine Fn.froze_ fun h => ?_
  refine enter (by kernel_rfl) e51 (by kernel_rfl) rfl fun hok => ?_
  simp only [r51, initEnv_1]
  generalize hC : RCode.seq (.reg (⟨some 15, .v (.load true 3 (.t 5)), none⟩ :: _)) _ = C
  have hfb : fillA [.nils, .int .i64 0, .int .u64 0] [(0, 1, eU c)] = some [eU c, .int .i64 0, .int .u64 0] := by cases c <;> rfl
  (try (simp (disch := first | omega | (simp <;> omega) | fail) only [push_cast, ↓reduceIte, Nat.reduceEqDiff, Nat.reduceAdd, Nat.reduceMul, Nat.reduceSub, Nat.reduceLT, Int.reduceToNat, hfb]))
  refine (c_spec_DrawSolveSystem c).use ?_
  rintro x ⟨s, rfl⟩
  have hB : Bx2 h (h ++ [some (.cells [.int .i64 0, .nils, .nils]), some (.cells [.int .i64 0, .nils]), some (.cells [eU c, .int .i64 0, .int .u64 0]), some (.cells [.int .i64 s.size, eBS s.rows, eO s.right])]) c 0 (h.length + 3) [.int .i64 s.size, eBS s.rows, eO s.right] :=
    ⟨⟨by rw [cells_h0]; rfl, by rw [cells_hk]; rfl⟩, ⟨0, 0, by rw [cells_hk]; rfl, Nat.le_refl _⟩, by rw [cells_hk]; rfl, by omega⟩
  (try (simp (disch := first | omega | (simp <;> omega) | fail) only [push_cast, ↓reduceIte, Nat.reduceEqDiff, Nat.reduceAdd, Nat.reduceMul, Nat.reduceSub, Nat.reduceLT, Int.reduceToNat]))
  generalize h ++ [some (.cells [.int .i64 0, .nils, .nils]), some (.cells [.int .i64 0, .nils]), some (.cells [eU c, .int .i64 0, .int .u64 0]), some (.cells [.int .i64 s.size, eBS s.rows, eO s.right])] = g at *
  generalize hb5 : h.length + 3 = b5 at *
  have hpm : (h.length ≤ h.length) = True := by simp
  have hpm1 : (h.length ≤ h.length + 1) = True := by simp
  have hcp : ∀ b', b' = h.length + 2 → Nowhere b' ∨ h.length ≤ b' := fun b' hb' => Or.inr (by omega)
  refine T_cutR (fun e g => Pins e [(2, .adr h.length 0), (3, .adr (h.length + 1) 0), (4, .adr (h.length + 2) 0), (5, .adr b5 0)] ∧ Bx2 h g c 1 b5 [.int .i64 s.size, eBS s.rows, eO s.right]) ?_ ?_
  · rw [← hC]
    have c5 := hB.2.2.1
    have hBm := hB.mono (show 0 ≤ 1 by omega)
    (try (simp (disch := first | omega | (simp <;> omega) | fail) only [push_cast, ↓reduceIte, Nat.reduceEqDiff, Nat.reduceAdd, Nat.reduceMul, Nat.reduceSub, Nat.reduceLT, Int.reduceToNat, c5]))
    refine (c_spec_reGood s).call ?_
    cases hk : okSy s
    · (try (simp (disch := first | omega | (simp <;> omega) | fail) only [push_cast, ↓reduceIte, Nat.reduceEqDiff, Nat.reduceAdd, Nat.reduceMul, Nat.reduceSub, Nat.reduceLT, Int.reduceToNat, c5]))
      all_goals (try exact hBm)
    obtain ⟨m, ho⟩ := okE_n hk
    (try (simp (disch := first | omega | (simp <;> omega) | fail) only [push_cast, ↓reduceIte, Nat.reduceEqDiff, Nat.reduceAdd, Nat.reduceMul, Nat.reduceSub, Nat.reduceLT, Int.reduceToNat, c5]))
    refine (c_spec_l1Cur_one (h.length + 2) c _ g 2 hB.2.1 (by omega) (by omega) (by omega)).mono (fun x g2 hx => ?_) (fun b' _ hb' => hcp b' hb')
    obtain ⟨⟨t, rfl⟩, hs⟩ := hx
    have hB2 := hB.step hs
    have c52 := hB2.2.2.1
    cases t
    · (try (simp (disch := first | omega | (simp <;> omega) | fail) only [push_cast, ↓reduceIte, Nat.reduceEqDiff, Nat.reduceAdd, Nat.reduceMul, Nat.reduceSub, Nat.reduceLT, Int.reduceToNat]))
      all_goals (try exact hB2)
    (try (simp (disch := first | omega | (simp <;> omega) | fail) only [push_cast, ↓reduceIte, Nat.reduceEqDiff, Nat.reduceAdd, Nat.reduceMul, Nat.reduceSub, Nat.reduceLT, Int.reduceToNat, c52]))
    refine (c_spec_reSolve s m ho hk).call ?_
    unfold solV
    have hB3 := hB2.more (l := [some (.cells [.int .i64 (solB s).size, eI (solB s).words])])
    have c63 : H.cells (g2 ++ [some (.cells [.int .i64 (solB s).size, eI (solB s).words])]) g2.length = some [.int .i64 (solB s).size, eI (solB s).words] := by rw [cells_h0]; rfl
    have hg2 : h.length ≤ g2.length := by have := hB2.2.1.lt; omega
    (try (simp (disch := first | omega | (simp <;> omega) | fail) only [push_cast, ↓reduceIte, Nat.reduceEqDiff, Nat.reduceAdd, Nat.reduceMul, Nat.reduceSub, Nat.reduceLT, Int.reduceToNat]))
    generalize g2 ++ [some (.cells [.int .i64 (solB s).size, eI (solB s).words])] = g3 at *
    generalize g2.length = b6 at *
    obtain ⟨w1, w2, w3, w4⟩ := wr_two (A := [.int .i64 s.size, eBS s.rows, eO s.right]) (B := [.int .i64 (solB s).size, eI (solB s).words]) hB3.1.1 hB3.1.2
    have c53 := hB3.2.2.1
    have c03 := hB3.1.1
    have hne : b6 ≠ h.length := fun he => by
      rw [he, c03] at c63
      injection c63 with c63
      injection c63 with _ c63
      injection c63 with _ c63
      cases c63
    have w5 : H.cells (wr g3 h.length [.int .i64 s.size, eBS s.rows, eO s.right]) b6 = some [.int .i64 (solB s).size, eI (solB s).words] := cells_keep (by unfold wr; rw [List.getElem?_set_ne (Ne.symm hne)]) c63
    cases hq : solq s
    · (try (simp (disch := first | omega | (simp <;> omega) | fail) only [push_cast, ↓reduceIte, Nat.reduceEqDiff, Nat.reduceAdd, Nat.reduceMul, Nat.reduceSub, Nat.reduceLT, Int.reduceToNat, hq]))
      all_goals (try exact hB3)
    · (try (simp (disch := first | omega | (simp <;> omega) | fail) only [push_cast, ↓reduceIte, Nat.reduceEqDiff, Nat.reduceAdd, Nat.reduceMul, Nat.reduceSub, Nat.reduceLT, Int.reduceToNat, hq, c53, c63, c03, hpm, hpm1, w1, w2, w3, w5, reads, List.mem_cons, List.mem_append, List.not_mem_nil, nat_ff, or_self, or_false, false_or, not_false_eq_true]))
      repeat' (with_reducible refine And.intro ?_ ?_)
      all_goals (try exact ⟨_, .free (free_tup (free_cons_ free_eSy (free_cons_ free_eB free_nil_))), s, _, rfl⟩)
  · rintro e g3 ⟨hp, hB⟩
    refine K_pins hp fun e => ?_
    have c5 := hB.2.2.1
    (try (simp (disch := first | omega | (simp <;> omega) | fail) only [push_cast, ↓reduceIte, Nat.reduceEqDiff, Nat.reduceAdd, Nat.reduceMul, Nat.reduceSub, Nat.reduceLT, Int.reduceToNat]))
    refine (c_spec_l1Cur_one (h.length + 2) c _ g3 6 hB.2.1 (by omega) (by omega) (by omega)).mono (fun x g4 hx => ?_) (fun b' _ hb' => hcp b' hb')
    obtain ⟨⟨t, rfl⟩, hs⟩ := hx
    have hB4 := hB.step hs
    have c54 := hB4.2.2.1
    have c04 := hB4.1.1
    cases t
    case true =>
      (try (simp (disch := first | omega | (simp <;> omega) | fail) only [push_cast, ↓reduceIte, Nat.reduceEqDiff, Nat.reduceAdd, Nat.reduceMul, Nat.reduceSub, Nat.reduceLT, Int.reduceToNat, c54, reads, List.mem_cons, List.mem_append, List.not_mem_nil, nat_ff, or_self, or_false, false_or, not_false_eq_true]))
      repeat' (with_reducible refine And.intro ?_ ?_)
      all_goals
        refine (c_spec_l1Cur_anyBits (h.length + 2) c _ g4 hB4.2.1 (by omega)).mono (fun x g5 hx => ?_) (fun b' _ hb' => hcp b' hb')
        obtain ⟨n9, l9, bb, rfl, y1, y2, y3, y4, y5, y6⟩ := hx
        have hB5 : Bx2 h g5 c (1 + 1 + 60) b5 [.int .i64 s.size, eBS s.rows, eO s.right] := hB4.keep (fun k hk => y4 k (by have := cells_lt hB4.1.1; have := cells_lt hB4.1.2; have := cells_lt c54; omega) (by have := hB4.2.2.2; omega)) y5
        obtain ⟨w1, w2, w3, w4⟩ := wr_two (A := [.int .i64 s.size, eBS s.rows, eO s.right]) (B := [.int .i64 n9, .sl bb 0 1 l9.length l9.length]) hB5.1.1 hB5.1.2
        have c55 := hB5.2.2.1
        have c05 := hB5.1.1
        have hl4 := hB4.2.1.lt
        have hv : Vw (wr (wr g5 h.length [.int .i64 s.size, eBS s.rows, eO s.right]) (h.length + 1) [.int .i64 n9, .sl bb 0 1 l9.length l9.length]) h.length (.agg [.int .i64 n9, .sl bb 0 1 l9.length l9.length]) (eB ⟨n9, some l9⟩) := vw_B (by omega) (cells_keep (w4 _ (by omega) (by omega)) y6) rfl
        (try (simp (disch := first | omega | (simp <;> omega) | fail) only [push_cast, ↓reduceIte, Nat.reduceEqDiff, Nat.reduceAdd, Nat.reduceMul, Nat.reduceSub, Nat.reduceLT, Int.reduceToNat, c55, c05, hpm, hpm1, w1, w2, w3, reads, List.mem_cons, List.mem_append, List.not_mem_nil, nat_ff, or_self, or_false, false_or, not_false_eq_true]))
        all_goals (try exact ⟨_, vw_tup2 (.free free_eSy) hv, s, _, rfl⟩)
    (try (simp (disch := first | omega | (simp <;> omega) | fail) only [push_cast, ↓reduceIte, Nat.reduceEqDiff, Nat.reduceAdd, Nat.reduceMul, Nat.reduceSub, Nat.reduceLT, Int.reduceToNat, c54]))
    refine (c_spec_l1Clip s.size 80 (by omega)).use ?_
    rintro x ⟨nn, rfl, hn80⟩
    obtain ⟨m, hm⟩ : ∃ m : Nat, m = (nn + 15) / 16 := ⟨_, rfl⟩
    (try (simp (disch := first | omega | (simp <;> omega) | fail) only [push_cast, ↓reduceIte, Nat.reduceEqDiff, Nat.reduceAdd, Nat.reduceMul, Nat.reduceSub, Nat.reduceLT, Int.reduceToNat]))
    refine (c_spec_biNew_own nn m (by omega) (by omega) _).mono (fun x g5 hx => ?_) (fun _ _ h => h.elim)
    obtain ⟨bb, rfl, t1, ⟨p, hp5⟩, t3⟩ := hx
    have hl5 : g4.length ≤ g5.length := by rw [hp5]; simp
    have hB5 : Bx2 h g5 c (1 + 1) b5 [.int .i64 s.size, eBS s.rows, eO s.right] := by rw [hp5]; exact hB4.more
    have hB6 := hB5.more (l := [some (.cells [.int .i64 nn, .sl bb 0 1 m m])])
    have c8 : H.cells (g5 ++ [some (.cells [.int .i64 nn, .sl bb 0 1 m m])]) g5.length = some [.int .i64 nn, .sl bb 0 1 m m] := by rw [cells_h0]; rfl
    have cb : H.cells (g5 ++ [some (.cells [.int .i64 nn, .sl bb 0 1 m m])]) bb = some ((wordsN 0 m).map (.int .i64)) := cells_app t3
    have hbb := cells_lt t3
    have hl4 := hB4.2.1.lt
    have hl54 := cells_lt c54
    have h08 : h.length ≤ g5.length := by omega
    clear hp5
    (try (simp (disch := first | omega | (simp <;> omega) | fail) only [push_cast, ↓reduceIte, Nat.reduceEqDiff, Nat.reduceAdd, Nat.reduceMul, Nat.reduceSub, Nat.reduceLT, Int.reduceToNat]))
    generalize g5 ++ [some (.cells [.int .i64 (nn : Int), .sl bb 0 1 m m])] = g6 at *
    generalize g5.length = b8 at *
    refine T_for nn (fun j e g' => ∃ B, Pins e [(2, .adr h.length 0), (3, .adr (h.length + 1) 0), (4, .adr (h.length + 2) 0), (5, .adr b5 0), (8, .adr b8 0), (9, .int .i64 j)] ∧ Bx2 h g' c (1 + 1 + j) b5 [.int .i64 s.size, eBS s.rows, eO s.right] ∧ g'.cells b8 = some [.int .i64 nn, .sl bb 0 1 m m] ∧ g'.cells bb = some ((wordsN B m).map (.int .i64))) ?_ ?_
    · refine ⟨0, ?_, hB6, c8, cb⟩
      (try (simp (disch := first | omega | (simp <;> omega) | fail) only [push_cast, ↓reduceIte, Nat.reduceEqDiff, Nat.reduceAdd, Nat.reduceMul, Nat.reduceSub, Nat.reduceLT, Int.reduceToNat]))
      all_goals (try simp)
    rintro j e g7 hj ⟨B, hp, hB7, c87, cb7⟩
    refine T_pins hp fun e => ?_
    (try (simp (disch := first | omega | (simp <;> omega) | fail) only [push_cast, ↓reduceIte, Nat.reduceEqDiff, Nat.reduceAdd, Nat.reduceMul, Nat.reduceSub, Nat.reduceLT, Int.reduceToNat, c87]))
    first | refine goC_split (fun hc => ?_) (fun hc => ?_) | refine cnd_split (fun hc => ?_) (fun hc => ?_)
    · (try (simp only [decide_eq_true_eq, decide_eq_false_iff_not, Bool.not_eq_true', Bool.not_eq_false', Bool.and_eq_true, Bool.or_eq_true, Int.not_lt, Int.not_le] at hc)); (try (simp (disch := first | omega | (simp <;> omega) | fail) only [push_cast, ↓reduceIte, Nat.reduceEqDiff, Nat.reduceAdd, Nat.reduceMul, Nat.reduceSub, Nat.reduceLT, Int.reduceToNat]))
      refine (c_spec_l1Cur_one (h.length + 2) c _ g7 2 hB7.2.1 (by omega) (by omega) (by omega)).mono (fun x g8 hx => ?_) (fun b' _ hb' => hcp b' hb')
      obtain ⟨⟨t, rfl⟩, hs⟩ := hx
      have hB8 := hB7.step hs
      have c88 := cells_keep (hs.2.1 b8 (by omega)) c87
      have cb8 := cells_keep (hs.2.1 bb (by omega)) cb7
      cases t
      · (try (simp (disch := first | omega | (simp <;> omega) | fail) only [push_cast, ↓reduceIte, Nat.reduceEqDiff, Nat.reduceAdd, Nat.reduceMul, Nat.reduceSub, Nat.reduceLT, Int.reduceToNat]))
        all_goals (try exact ⟨_, hB8, c88, cb8⟩)
      · (try (simp (disch := first | omega | (simp <;> omega) | fail) only [push_cast, ↓reduceIte, Nat.reduceEqDiff, Nat.reduceAdd, Nat.reduceMul, Nat.reduceSub, Nat.reduceLT, Int.reduceToNat, c88]))
        refine (c_spec_biSet nn bb m B j g8 cb8 (by omega) (by omega)).mono (fun y g9 hy => ?_) (fun b' _ hb' => Or.inr (by omega))
        obtain ⟨y1, y2, y3⟩ := hy
        have l8 := cells_lt c88
        have lc := hB8.2.1.lt
        have l58 := cells_lt hB8.2.2.1
        have hB9 : Bx2 h g9 c (1 + 1 + (j + 1)) b5 [.int .i64 s.size, eBS s.rows, eO s.right] := hB8.keep (fun k hk => y2 k (by omega) (by omega)) (hB8.2.1.frame (y2 _ lc (by omega)))
        have c89 := cells_keep (y2 _ l8 (by omega)) c88
        (try (simp (disch := first | omega | (simp <;> omega) | fail) only [push_cast, ↓reduceIte, Nat.reduceEqDiff, Nat.reduceAdd, Nat.reduceMul, Nat.reduceSub, Nat.reduceLT, Int.reduceToNat]))
        all_goals (try exact ⟨_, hB9, c89, y3⟩)
    · (try (simp only [decide_eq_true_eq, decide_eq_false_iff_not, Bool.not_eq_true', Bool.not_eq_false', Bool.and_eq_true, Bool.or_eq_true, Int.not_lt, Int.not_le] at hc)); (try (simp (disch := first | omega | (simp <;> omega) | fail) only [push_cast, ↓reduceIte, Nat.reduceEqDiff, Nat.reduceAdd, Nat.reduceMul, Nat.reduceSub, Nat.reduceLT, Int.reduceToNat]))
      obtain ⟨w1, w2, w3, w4⟩ := wr_two (A := [.int .i64 s.size, eBS s.rows, eO s.right]) (B := [.int .i64 nn, .sl bb 0 1 m m]) hB7.1.1 hB7.1.2
      have c57 := hB7.2.2.1
      have c07 := hB7.1.1
      have w5 : H.cells (wr g7 h.length [.int .i64 s.size, eBS s.rows, eO s.right]) b8 = some [.int .i64 nn, .sl bb 0 1 m m] := cells_keep (by unfold wr; rw [List.getElem?_set_ne (by omega)]) c87
      have hv : Vw (wr (wr g7 h.length [.int .i64 s.size, eBS s.rows, eO s.right]) (h.length + 1) [.int .i64 nn, .sl bb 0 1 m m]) h.length (.agg [.int .i64 nn, .sl bb 0 1 m m]) (eB ⟨nn, some (wordsN B m)⟩) := vw_B (by omega) (cells_keep (w4 _ (by omega) (by omega)) cb7) wordsN_len
      (try (simp (disch := first | omega | (simp <;> omega) | fail) only [push_cast, ↓reduceIte, Nat.reduceEqDiff, Nat.reduceAdd, Nat.reduceMul, Nat.reduceSub, Nat.reduceLT, Int.reduceToNat, c57, c87, c07, hpm, hpm1, w1, w2, w3, w5, reads, List.mem_cons, List.mem_append, List.not_mem_nil, nat_ff, or_self, or_false, false_or, not_false_eq_true]))
      repeat' (with_reducible refine And.intro ?_ ?_)
      all_goals (try exact ⟨_, vw_tup2 (.free free_eSy) hv, s, _, rfl⟩)

end Go.Proofs.Ytgkdnpigbpkehaa.M
