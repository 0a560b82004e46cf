/-
  What the functions return.
-/
import Derived.Test.YtdkgoaiodjokpaaGreatFb
import Derived.Test.YtdkgoaiodjokpaaGreatCa
namespace Go.Proofs.YtdkgoaiodjokpaaGreat.M
open Go Go.RowKit
set_option linter.unusedVariables false
set_option linter.unusedSimpArgs false
set_option maxRecDepth 4000

theorem c_spec_l1Cur_next (b : Nat) (c : Option (List UInt8)) (K : Nat) (h : H) (hc : CurI h b c K) (hK : K ≤ 1000000000) :
    Call Tryz.prog 70 [.adr b 0] h (fun b' => b' = b) (fun x h' => (∃ n : Int, x = .int .i64 n ∧ 0 ≤ n ∧ n ≤ 255) ∧ CurS h h' b c (K + 1)) := by
  refine enter (by kernel_rfl) e70 (by kernel_rfl) rfl fun hok => ?_
  simp only [r70, initEnv_1]
  obtain ⟨a, sd, hcs, ha⟩ := hc
  have hlt := cells_lt hcs
  have hpm : (b = b) = True := by simp
  have hw1 := fun cs => cells_wr hlt cs
  have hw2 := fun cs cs' => wr_wr (h := h) (b := b) cs cs'
  have fin : ∀ (sd' : Int), CurS h (wr h b [eU c, .int .i64 ((a : Int) + 1), .int .u64 sd']) b c (K + 1) := fun sd' => by
    refine ⟨by simp [wr], fun b' hb' => ?_, a + 1, sd', ?_, by omega⟩
    · unfold wr
      rw [List.getElem?_set_ne (Ne.symm hb')]
    · rw [cells_wr hlt]
      simp
  by_cases hlt2 : a < (lU c).length
  · have hcb : ((lU c).getD a 0).toNat < 256 := UInt8.toNat_lt _
    (try (simp (disch := first | omega | (simp <;> omega) | fail) only [push_cast, ↓reduceIte, Nat.reduceEqDiff, Nat.reduceAdd, Nat.reduceMul, Nat.reduceSub, Nat.reduceLT, Int.reduceToNat, hcs, hpm, hw1, hw2]))
    all_goals (try exact ⟨⟨_, rfl, by omega, by omega⟩, fin _⟩)
  · (try (simp (disch := first | omega | (simp <;> omega) | fail) only [push_cast, ↓reduceIte, Nat.reduceEqDiff, Nat.reduceAdd, Nat.reduceMul, Nat.reduceSub, Nat.reduceLT, Int.reduceToNat, hcs, hpm, hw1, hw2, wrap_and255]))
    all_goals (try exact ⟨⟨_, rfl, (and255 _).1, (and255 _).2⟩, fin _⟩)

def PickR (n m : Int) : Prop := 0 ≤ m ∧ (m < n ∨ m = 0)

theorem c_spec_l1Cur_pick (b : Nat) (c : Option (List UInt8)) (K : Nat) (h : H) (n : Int) (hc : CurI h b c K) (hK : K ≤ 1000000000) (hn : 1 < n) (hn2 : n ≤ 200) :
    Call Tryz.prog 29 [.adr b 0, .int .i64 n] h (fun b' => b' = b) (fun x h' => (∃ m : Int, x = .int .i64 m ∧ 0 ≤ m ∧ m < n) ∧ CurS h h' b c (K + 1)) := by
  refine enter (by kernel_rfl) e29 (by kernel_rfl) rfl fun hok => ?_
  simp only [r29, initEnv_2]
  (try (simp (disch := first | omega | (simp <;> omega) | fail) only [push_cast, ↓reduceIte, Nat.reduceEqDiff, Nat.reduceAdd, Nat.reduceMul, Nat.reduceSub, Nat.reduceLT, Int.reduceToNat]))
  refine (c_spec_l1Cur_next b c K h hc hK).mono (fun x h' hx => ?_) (fun b' _ hb' => Or.inl hb')
  obtain ⟨⟨m, rfl, m0, m1⟩, hs⟩ := hx
  have h1 := Int.emod_nonneg m (show n ≠ 0 by omega)
  have h2 := Int.emod_lt_of_pos m (show 0 < n by omega)
  (try (simp (disch := first | omega | (simp <;> omega) | fail) only [push_cast, ↓reduceIte, Nat.reduceEqDiff, Nat.reduceAdd, Nat.reduceMul, Nat.reduceSub, Nat.reduceLT, Int.reduceToNat]))
  all_goals (try exact ⟨⟨_, rfl, h1, h2⟩, hs⟩)
theorem c_spec_l1Cur_pickAny (b : Nat) (c : Option (List UInt8)) (K : Nat) (h : H) (n : Int) (hc : CurI h b c K) (hK : K ≤ 1000000000) (hn2 : n ≤ 200) :
    Call Tryz.prog 29 [.adr b 0, .int .i64 n] h (fun b' => b' = b) (fun x h' => (∃ m : Int, x = .int .i64 m ∧ PickR n m) ∧ CurS h h' b c (K + 1)) := by
  by_cases hn : 1 < n
  · exact (c_spec_l1Cur_pick b c K h n hc hK hn hn2).mono (fun x h' hx => by
      obtain ⟨⟨m, rfl, m0, m1⟩, hs⟩ := hx
      exact ⟨⟨m, rfl, m0, .inl m1⟩, hs⟩) (fun _ _ h => h)
  · refine enter (by kernel_rfl) e29 (by kernel_rfl) rfl fun hok => ?_
    simp only [r29, initEnv_2]
    have hs : CurS h h b c (K + 1) := ⟨rfl, fun _ _ => rfl, hc.mono (by omega)⟩
    (try (simp (disch := first | omega | (simp <;> omega) | fail) only [push_cast, ↓reduceIte, Nat.reduceEqDiff, Nat.reduceAdd, Nat.reduceMul, Nat.reduceSub, Nat.reduceLT, Int.reduceToNat]))
    all_goals (try exact ⟨⟨_, rfl, Int.le_refl _, .inr rfl⟩, hs⟩)

theorem c_spec_l1Cur_one (b : Nat) (c : Option (List UInt8)) (K : Nat) (h : H) (n : Int) (hc : CurI h b c K) (hK : K ≤ 1000000000) (hn : 1 < n) (hn2 : n ≤ 200) :
    Call Tryz.prog 30 [.adr b 0, .int .i64 n] h (fun b' => b' = b) (fun x h' => (∃ t : Bool, x = .bool t) ∧ CurS h h' b c (K + 1)) := by
  refine enter (by kernel_rfl) e30 (by kernel_rfl) rfl fun hok => ?_
  simp only [r30, initEnv_2]
  (try (simp (disch := first | omega | (simp <;> omega) | fail) only [push_cast, ↓reduceIte, Nat.reduceEqDiff, Nat.reduceAdd, Nat.reduceMul, Nat.reduceSub, Nat.reduceLT, Int.reduceToNat]))
  refine (c_spec_l1Cur_pick b c K h n hc hK hn hn2).mono (fun x h' hx => ?_) (fun b' _ hb' => Or.inl hb')
  obtain ⟨⟨m, rfl, m0, m1⟩, hs⟩ := hx
  by_cases hz : m = 0
  · (try (simp (disch := first | omega | (simp <;> omega) | fail) only [push_cast, ↓reduceIte, Nat.reduceEqDiff, Nat.reduceAdd, Nat.reduceMul, Nat.reduceSub, Nat.reduceLT, Int.reduceToNat, hz]))
    all_goals (try exact ⟨⟨_, rfl⟩, hs⟩)
  · (try (simp (disch := first | omega | (simp <;> omega) | fail) only [push_cast, ↓reduceIte, Nat.reduceEqDiff, Nat.reduceAdd, Nat.reduceMul, Nat.reduceSub, Nat.reduceLT, Int.reduceToNat, hz]))
    all_goals (try exact ⟨⟨_, rfl⟩, hs⟩)

theorem c_spec_l1Cur_key_x (b : Nat) (c : Option (List UInt8)) (K : Nat) (h : H) (hcu : CurI h b c K) (hK : K ≤ 100000000) :
    Call Tryz.prog 79 [.adr b 0] h (fun b' => b' = b) (fun x g => (∃ s : Str, x = .str s ∧ okKey s = true) ∧ CurF h g b c (K + 6)) := by
  refine Call.cur hcu.lt ?_
  refine enter (by kernel_rfl) e79 (by kernel_rfl) rfl fun hok => ?_
  simp only [r79, initEnv_1]
  have hbl := hcu.lt
  (try (simp (disch := first | omega | (simp <;> omega) | fail) only [push_cast, ↓reduceIte, Nat.reduceEqDiff, Nat.reduceAdd, Nat.reduceMul, Nat.reduceSub, Nat.reduceLT, Int.reduceToNat]))
  refine (c_spec_l1Cur_pick b c K h 4 hcu (by omega) (by omega) (by omega)).mono (fun x h1 hx => ?_) (fun b' _ hb' => Or.inl hb')
  obtain ⟨⟨q, rfl, q0, q1⟩, hs⟩ := hx
  obtain ⟨mm, hmm⟩ : ∃ mm : Nat, 1 + q = (mm : Int) := ⟨(1 + q).toNat, by omega⟩
  have hG1 : GrD f8 h h1 b c (K + 1) .nils [] := (GrD.start hcu).step hs.f
  (try (simp (disch := first | omega | (simp <;> omega) | fail) only [push_cast, ↓reduceIte, Nat.reduceEqDiff, Nat.reduceAdd, Nat.reduceMul, Nat.reduceSub, Nat.reduceLT, Int.reduceToNat, hmm]))
  refine T_for mm (fun i e g => ∃ v s, Pins e [(0, .adr b 0), (3, v), (4, .int .i64 ((mm : Int) - i))] ∧ GrD f8 h g b c (K + 1 + i) v s ∧ s.length = i ∧ s.all okByte = true) ?_ ?_
  · refine ⟨.nils, [], ?_, hG1, rfl, rfl⟩
    (try (simp (disch := first | omega | (simp <;> omega) | fail) only [push_cast, ↓reduceIte, Nat.reduceEqDiff, Nat.reduceAdd, Nat.reduceMul, Nat.reduceSub, Nat.reduceLT, Int.reduceToNat]))
    all_goals (try simp)
  have hlet : ∀ j, j < 11 → okByte (([97, 97, 98, 98, 99, 120, 121, 122, 33, 125, 48] : List UInt8).getD j 0) = true := by decide
  have h97 : okByte 97 = true := by decide
  have hmm1 : 1 ≤ mm := by omega
  rintro i e g hi ⟨v, s, hp, hG, hsl, hsa⟩
  refine T_pins hp fun e => ?_
  (try (simp (disch := first | omega | (simp <;> omega) | fail) only [push_cast, ↓reduceIte, Nat.reduceEqDiff, Nat.reduceAdd, Nat.reduceMul, Nat.reduceSub, Nat.reduceLT, Int.reduceToNat]))
  first | refine goC_split (fun hc => ?_) (fun hc => ?_) | refine cnd_split (fun hc => ?_) (fun hc => ?_)
  · (try (simp only [decide_eq_true_eq, decide_eq_false_iff_not, Bool.not_eq_true', Bool.not_eq_false', Bool.and_eq_true, Bool.or_eq_true, Int.not_lt, Int.not_le] at hc)); (try (simp (disch := first | omega | (simp <;> omega) | fail) only [push_cast, ↓reduceIte, Nat.reduceEqDiff, Nat.reduceAdd, Nat.reduceMul, Nat.reduceSub, Nat.reduceLT, Int.reduceToNat]))
    refine (c_spec_l1Cur_pick b c _ g 11 hG.1.2.2 (by omega) (by omega) (by omega)).mono (fun x g2 hx => ?_) (fun b' _ hb' => Or.inl hb')
    obtain ⟨⟨k, rfl, k0, k1⟩, hs2⟩ := hx
    have hG2 := hG.step hs2.f
    (try (simp (disch := first | omega | (simp <;> omega) | fail) only [push_cast, ↓reduceIte, Nat.reduceEqDiff, Nat.reduceAdd, Nat.reduceMul, Nat.reduceSub, Nat.reduceLT, Int.reduceToNat]))
    refine hG2.app (a := ([97, 97, 98, 98, 99, 120, 121, 122, 33, 125, 48] : List UInt8).getD k.toNat 0) (by_ := 1) rfl (fun y hy => Or.inr hy) (by omega) fun v2 g3 hG3 => ?_
    (try (simp (disch := first | omega | (simp <;> omega) | fail) only [push_cast, ↓reduceIte, Nat.reduceEqDiff, Nat.reduceAdd, Nat.reduceMul, Nat.reduceSub, Nat.reduceLT, Int.reduceToNat]))
    have hsa2 : (s ++ [([97, 97, 98, 98, 99, 120, 121, 122, 33, 125, 48] : List UInt8).getD k.toNat 0]).all okByte = true := by
      rw [List.all_append, hsa, List.all_cons, hlet _ (by omega)]
      rfl
    all_goals (try exact ⟨_, _, rfl, hG3, by simp [hsl], hsa2⟩)
    all_goals (try exact ⟨_, _, ⟨rfl, by omega⟩, hG3, by simp [hsl], hsa2⟩)
  · (try (simp only [decide_eq_true_eq, decide_eq_false_iff_not, Bool.not_eq_true', Bool.not_eq_false', Bool.and_eq_true, Bool.or_eq_true, Int.not_lt, Int.not_le] at hc)); (try (simp (disch := first | omega | (simp <;> omega) | fail) only [push_cast, ↓reduceIte, Nat.reduceEqDiff, Nat.reduceAdd, Nat.reduceMul, Nat.reduceSub, Nat.reduceLT, Int.reduceToNat]))
    refine (c_spec_l1Cur_one b c _ g 12 hG.1.2.2 (by omega) (by omega) (by omega)).mono (fun x g2 hx => ?_) (fun b' _ hb' => Or.inl hb')
    obtain ⟨⟨t, rfl⟩, hs2⟩ := hx
    have hG2 := hG.step hs2.f
    have hok1 : ∀ s' : Str, s'.all okByte = true → 1 ≤ s'.length → s'.length ≤ 12 → okKey s' = true := fun s' a1 a2 a3 => by
      unfold okKey
      rw [a1, decide_eq_true (by omega), decide_eq_true (by omega)]
      rfl
    cases t
    · have hcb := hG2.cbs
      (try (simp (disch := first | omega | (simp <;> omega) | fail) only [push_cast, ↓reduceIte, Nat.reduceEqDiff, Nat.reduceAdd, Nat.reduceMul, Nat.reduceSub, Nat.reduceLT, Int.reduceToNat, hcb]))
      all_goals (try exact ⟨_, .free free_str, ⟨_, rfl, hok1 s hsa (by omega) (by omega)⟩, hG2.1.mono (by omega)⟩)
    · (try (simp (disch := first | omega | (simp <;> omega) | fail) only [push_cast, ↓reduceIte, Nat.reduceEqDiff, Nat.reduceAdd, Nat.reduceMul, Nat.reduceSub, Nat.reduceLT, Int.reduceToNat]))
      refine T_for (12 - i) (fun j e g' => ∃ v s', Pins e [(3, v)] ∧ GrD f8 h g' b c (K + 1 + i + 1) v s' ∧ s'.length = i + j ∧ s'.all okByte = true) ?_ ?_
      · refine ⟨v, s, ?_, hG2, by omega, hsa⟩
        (try (simp (disch := first | omega | (simp <;> omega) | fail) only [push_cast, ↓reduceIte, Nat.reduceEqDiff, Nat.reduceAdd, Nat.reduceMul, Nat.reduceSub, Nat.reduceLT, Int.reduceToNat]))
      rintro j e g' hj ⟨v', s', hp, hG', hsl', hsa'⟩
      refine T_pins hp fun e => ?_
      have hlv := hG'.lenA
      (try (simp (disch := first | omega | (simp <;> omega) | fail) only [push_cast, ↓reduceIte, Nat.reduceEqDiff, Nat.reduceAdd, Nat.reduceMul, Nat.reduceSub, Nat.reduceLT, Int.reduceToNat, hlv]))
      first | refine goC_split (fun hd => ?_) (fun hd => ?_) | refine cnd_split (fun hd => ?_) (fun hd => ?_)
      · (try (simp only [decide_eq_true_eq, decide_eq_false_iff_not, Bool.not_eq_true', Bool.not_eq_false', Bool.and_eq_true, Bool.or_eq_true, Int.not_lt, Int.not_le] at hd)); (try (simp (disch := first | omega | (simp <;> omega) | fail) only [push_cast, ↓reduceIte, Nat.reduceEqDiff, Nat.reduceAdd, Nat.reduceMul, Nat.reduceSub, Nat.reduceLT, Int.reduceToNat]))
        refine hG'.app (a := 97) (by_ := 1) rfl (fun y hy => Or.inr hy) (by omega) fun v2 g3 hG3 => ?_
        (try (simp (disch := first | omega | (simp <;> omega) | fail) only [push_cast, ↓reduceIte, Nat.reduceEqDiff, Nat.reduceAdd, Nat.reduceMul, Nat.reduceSub, Nat.reduceLT, Int.reduceToNat]))
        have hsa3 : (s' ++ [97]).all okByte = true := by
          rw [List.all_append, hsa', List.all_cons, h97]
          rfl
        all_goals (try exact ⟨by omega, _, _, rfl, hG3, by simp; omega, hsa3⟩)
        all_goals (try exact ⟨_, _, rfl, hG3, by simp; omega, hsa3⟩)
      · (try (simp only [decide_eq_true_eq, decide_eq_false_iff_not, Bool.not_eq_true', Bool.not_eq_false', Bool.and_eq_true, Bool.or_eq_true, Int.not_lt, Int.not_le] at hd)); (try (simp (disch := first | omega | (simp <;> omega) | fail) only [push_cast, ↓reduceIte, Nat.reduceEqDiff, Nat.reduceAdd, Nat.reduceMul, Nat.reduceSub, Nat.reduceLT, Int.reduceToNat]))
        have hcb := hG'.cbs
        (try (simp (disch := first | omega | (simp <;> omega) | fail) only [push_cast, ↓reduceIte, Nat.reduceEqDiff, Nat.reduceAdd, Nat.reduceMul, Nat.reduceSub, Nat.reduceLT, Int.reduceToNat, hcb]))
        all_goals (try exact ⟨_, .free free_str, ⟨_, rfl, hok1 s' hsa' (by omega) (by omega)⟩, hG'.1.mono (by omega)⟩)
theorem c_spec_l1Cur_key (b : Nat) (c : Option (List UInt8)) (K : Nat) (h : H) (hcu : CurI h b c K) (hK : K ≤ 100000000) :
    Call Tryz.prog 79 [.adr b 0] h (fun b' => b' = b) (fun x g => (∃ s : Str, x = .str s ∧ s.length ≤ 12) ∧ CurF h g b c (K + 6)) :=
  (c_spec_l1Cur_key_x b c K h hcu hK).mono (fun x g hx => by
    obtain ⟨⟨s, h1, h2⟩, h3⟩ := hx
    exact ⟨⟨s, h1, (okKey_len h2).2⟩, h3⟩) (fun _ _ h => h)

theorem c_spec_l1Cur_keys_x (b : Nat) (c : Option (List UInt8)) (K : Nat) (h : H) (most : Nat) (hcu : CurI h b c K) (hK : K ≤ 10000000) (h1m : 1 ≤ most) (hm : most ≤ 40) :
    Call Tryz.prog 71 [.adr b 0, .int .i64 most] h (fun b' => b' = b) (fun x g => ∃ l : List Str, GrD AV.str h g b c (K + 300) x l ∧ l.length ≤ most ∧ l.Pairwise slt ∧ ∀ s ∈ l, okKey s = true) := by
  refine enter (by kernel_rfl) e71 (by kernel_rfl) rfl fun hok => ?_
  simp only [r71, initEnv_2]
  have hbl := hcu.lt
  (try (simp (disch := first | omega | (simp <;> omega) | fail) only [push_cast, ↓reduceIte, Nat.reduceEqDiff, Nat.reduceAdd, Nat.reduceMul, Nat.reduceSub, Nat.reduceLT, Int.reduceToNat]))
  refine (c_spec_l1Cur_pick b c K h ((most : Int) + 1) hcu (by omega) (by omega) (by omega)).mono (fun x h1 hx => ?_) (fun b' _ hb' => Or.inl hb')
  obtain ⟨⟨q, rfl, q0, q1⟩, hs⟩ := hx
  obtain ⟨mm, rfl⟩ : ∃ mm : Nat, q = (mm : Int) := ⟨q.toNat, by omega⟩
  have hG1 : GrD AV.str h h1 b c (K + 1) .nils [] := (GrD.start hcu).step hs.f
  (try (simp (disch := first | omega | (simp <;> omega) | fail) only [push_cast, ↓reduceIte, Nat.reduceEqDiff, Nat.reduceAdd, Nat.reduceMul, Nat.reduceSub, Nat.reduceLT, Int.reduceToNat]))
  refine T_for mm (fun i e g => ∃ v l, Pins e [(0, .adr b 0), (5, v), (6, .int .i64 ((mm : Int) - i))] ∧ GrD AV.str h g b c (K + 1 + 6 * i) v l ∧ l.length ≤ i ∧ l.Pairwise slt ∧ ∀ s ∈ l, okKey s = true) ?_ ?_
  · refine ⟨.nils, [], ?_, hG1, by simp, .nil, by simp⟩
    (try (simp (disch := first | omega | (simp <;> omega) | fail) only [push_cast, ↓reduceIte, Nat.reduceEqDiff, Nat.reduceAdd, Nat.reduceMul, Nat.reduceSub, Nat.reduceLT, Int.reduceToNat]))
    all_goals (try simp)
  rintro i e g hi ⟨v, l, hp, hG, hll, hpw, hka⟩
  refine T_pins hp fun e => ?_
  (try (simp (disch := first | omega | (simp <;> omega) | fail) only [push_cast, ↓reduceIte, Nat.reduceEqDiff, Nat.reduceAdd, Nat.reduceMul, Nat.reduceSub, Nat.reduceLT, Int.reduceToNat]))
  first | refine goC_split (fun hc => ?_) (fun hc => ?_) | refine cnd_split (fun hc => ?_) (fun hc => ?_)
  · (try (simp only [decide_eq_true_eq, decide_eq_false_iff_not, Bool.not_eq_true', Bool.not_eq_false', Bool.and_eq_true, Bool.or_eq_true, Int.not_lt, Int.not_le] at hc)); (try (simp (disch := first | omega | (simp <;> omega) | fail) only [push_cast, ↓reduceIte, Nat.reduceEqDiff, Nat.reduceAdd, Nat.reduceMul, Nat.reduceSub, Nat.reduceLT, Int.reduceToNat]))
    refine (c_spec_l1Cur_key_x b c _ g hG.1.2.2 (by omega)).mono (fun x g2 hx => ?_) (fun b' _ hb' => Or.inl hb')
    obtain ⟨⟨s, rfl, hsl⟩, hF⟩ := hx
    have hG2 := hG.step hF
    obtain ⟨f1, f2, B, f3, f4⟩ := hG2
    (try (simp (disch := first | omega | (simp <;> omega) | fail) only [push_cast, ↓reduceIte, Nat.reduceEqDiff, Nat.reduceAdd, Nat.reduceMul, Nat.reduceSub, Nat.reduceLT, Int.reduceToNat]))
    refine (c_spec_l1PutS_x v l B s g2 f3 (by omega)).mono (fun x g3 hx => ?_) (fun _ _ h => h.elim)
    obtain ⟨y1, y2, l', B', y3, y4, y5⟩ := hx
    have hG3 := GrD.next (v := v) (l := l) f1 f2 f4 y1 y2 y3 y4
    have z1 : l'.length ≤ i + 1 := by
      rw [y5]
      have := putS_len (s := s) (l := l)
      omega
    have z2 : l'.Pairwise slt := by rw [y5]; exact putS_pw hpw
    have z3 : ∀ s ∈ l', okKey s = true := fun x hx => by
      rw [y5] at hx
      rcases putS_mem.1 hx with h5 | h5
      · exact hka x h5
      · rw [h5]; exact hsl
    (try (simp (disch := first | omega | (simp <;> omega) | fail) only [push_cast, ↓reduceIte, Nat.reduceEqDiff, Nat.reduceAdd, Nat.reduceMul, Nat.reduceSub, Nat.reduceLT, Int.reduceToNat]))
    all_goals (try exact ⟨_, _, rfl, hG3, z1, z2, z3⟩)
    all_goals (try exact ⟨_, _, ⟨rfl, by omega⟩, hG3, z1, z2, z3⟩)
    all_goals (try exact ⟨_, hG3, z1, z2, z3⟩)
    all_goals (try exact ⟨by omega, _, hG3, z1, z2, z3⟩)
  · (try (simp only [decide_eq_true_eq, decide_eq_false_iff_not, Bool.not_eq_true', Bool.not_eq_false', Bool.and_eq_true, Bool.or_eq_true, Int.not_lt, Int.not_le] at hc)); (try (simp (disch := first | omega | (simp <;> omega) | fail) only [push_cast, ↓reduceIte, Nat.reduceEqDiff, Nat.reduceAdd, Nat.reduceMul, Nat.reduceSub, Nat.reduceLT, Int.reduceToNat]))
    (try (simp (disch := first | omega | (simp <;> omega) | fail) only [push_cast, ↓reduceIte, Nat.reduceEqDiff, Nat.reduceAdd, Nat.reduceMul, Nat.reduceSub, Nat.reduceLT, Int.reduceToNat]))
    all_goals (try exact ⟨_, hG.mono (by omega), by omega, hpw, hka⟩)
theorem c_spec_l1Cur_keys (b : Nat) (c : Option (List UInt8)) (K : Nat) (h : H) (most : Nat) (hcu : CurI h b c K) (hK : K ≤ 10000000) (h1m : 1 ≤ most) (hm : most ≤ 40) :
    Call Tryz.prog 71 [.adr b 0, .int .i64 most] h (fun b' => b' = b) (fun x g => ∃ l : List Str, GrD AV.str h g b c (K + 300) x l ∧ l.length ≤ most) :=
  (c_spec_l1Cur_keys_x b c K h most hcu hK h1m hm).mono (fun x g hx => by
    obtain ⟨l, h1, h2, _⟩ := hx
    exact ⟨l, h1, h2⟩) (fun _ _ h => h)

theorem c_spec_l1Cur_many_x (b : Nat) (c : Option (List UInt8)) (K : Nat) (h : H) (n : Nat) (hcu : CurI h b c K) (hn : n ≤ 50) :
    Call Tryz.prog 73 [.adr b 0, .int .i64 n] h (fun b' => b' = b) (fun x g => ∃ l : List Str, GrD AV.str h g b c K x l ∧ l.length ≤ n ∧ l.Pairwise slt ∧ ∀ s ∈ l, okKey s = true) := by
  have hmk : ∀ i, i < 50 → okKey [UInt8.ofNat (97 + i / 10), UInt8.ofNat (48 + i % 10)] = true := by decide
  refine enter (by kernel_rfl) e73 (by kernel_rfl) rfl fun hok => ?_
  simp only [r73, initEnv_2]
  have hbl := hcu.lt
  (try (simp (disch := first | omega | (simp <;> omega) | fail) only [push_cast, ↓reduceIte, Nat.reduceEqDiff, Nat.reduceAdd, Nat.reduceMul, Nat.reduceSub, Nat.reduceLT, Int.reduceToNat]))
  refine T_for n (fun i e g => ∃ v l, Pins e [(1, .int .i64 n), (5, v), (6, .int .i64 i)] ∧ GrD AV.str h g b c K v l ∧ l.length ≤ i ∧ l.Pairwise slt ∧ ∀ s ∈ l, okKey s = true) ?_ ?_
  · refine ⟨.nils, [], ?_, GrD.start hcu, by simp, .nil, by simp⟩
    (try (simp (disch := first | omega | (simp <;> omega) | fail) only [push_cast, ↓reduceIte, Nat.reduceEqDiff, Nat.reduceAdd, Nat.reduceMul, Nat.reduceSub, Nat.reduceLT, Int.reduceToNat]))
    all_goals (try simp)
  rintro i e g hi ⟨v, l, hp, hG, hll, hpw, hka⟩
  refine T_pins hp fun e => ?_
  (try (simp (disch := first | omega | (simp <;> omega) | fail) only [push_cast, ↓reduceIte, Nat.reduceEqDiff, Nat.reduceAdd, Nat.reduceMul, Nat.reduceSub, Nat.reduceLT, Int.reduceToNat]))
  first | refine goC_split (fun hc => ?_) (fun hc => ?_) | refine cnd_split (fun hc => ?_) (fun hc => ?_)
  · (try (simp only [decide_eq_true_eq, decide_eq_false_iff_not, Bool.not_eq_true', Bool.not_eq_false', Bool.and_eq_true, Bool.or_eq_true, Int.not_lt, Int.not_le] at hc)); (try (simp (disch := first | omega | (simp <;> omega) | fail) only [push_cast, ↓reduceIte, Nat.reduceEqDiff, Nat.reduceAdd, Nat.reduceMul, Nat.reduceSub, Nat.reduceLT, Int.reduceToNat]))
    (try (simp (disch := first | omega | (simp <;> omega) | fail) only [push_cast, ↓reduceIte, Nat.reduceEqDiff, Nat.reduceAdd, Nat.reduceMul, Nat.reduceSub, Nat.reduceLT, Int.reduceToNat]))
    refine ⟨rfl, ?_⟩
    have e1 : (((UInt8.ofNat (97 + i / 10)).toNat : Nat) : Int) = 97 + (i : Int) / 10 := by simp; omega
    have e2 : (((UInt8.ofNat (48 + i % 10)).toNat : Nat) : Int) = 48 + (i : Int) % 10 := by simp; omega
    have hs2 : S1 (g ++ [some (.cells (((List.replicate 2 (AV.int .u8 0)).set 0 (.int .u8 (97 + (i : Int) / 10))).set 1 (.int .u8 (48 + (i : Int) % 10))))]) 1 (.sl g.length 0 1 2 2) 2 (u8s [UInt8.ofNat (97 + i / 10), UInt8.ofNat (48 + i % 10)]) [g.length] :=
      ⟨rfl, .inr ⟨g.length, rfl, rfl, by
        rw [cells_h0]
        simp only [u8s, List.map_cons, List.map_nil, e1, e2]
        rfl⟩⟩
    have hcb := cbs_S1 hs2
    obtain ⟨f1, f2, B, f3, f4⟩ := hG.more (l2 := [some (.cells (((List.replicate 2 (AV.int .u8 0)).set 0 (.int .u8 (97 + (i : Int) / 10))).set 1 (.int .u8 (48 + (i : Int) % 10))))])
    (try (simp (disch := first | omega | (simp <;> omega) | fail) only [push_cast, ↓reduceIte, Nat.reduceEqDiff, Nat.reduceAdd, Nat.reduceMul, Nat.reduceSub, Nat.reduceLT, Int.reduceToNat, hcb]))
    refine (c_spec_l1PutS_x v l B [UInt8.ofNat (97 + i / 10), UInt8.ofNat (48 + i % 10)] _ f3 (by omega)).mono (fun x g3 hx => ?_) (fun _ _ h => h.elim)
    obtain ⟨y1, y2, l', B', y3, y4, y5⟩ := hx
    have hG3 := GrD.next (v := v) (l := l) f1 f2 f4 y1 y2 y3 y4
    have z1 : l'.length ≤ i + 1 := by
      rw [y5]
      have := putS_len (s := [UInt8.ofNat (97 + i / 10), UInt8.ofNat (48 + i % 10)]) (l := l)
      omega
    have z2 : l'.Pairwise slt := by rw [y5]; exact putS_pw hpw
    have z3 : ∀ s ∈ l', okKey s = true := fun x hx => by
      rw [y5] at hx
      rcases putS_mem.1 hx with h5 | h5
      · exact hka x h5
      · rw [h5]; exact hmk i (by omega)
    (try (simp (disch := first | omega | (simp <;> omega) | fail) only [push_cast, ↓reduceIte, Nat.reduceEqDiff, Nat.reduceAdd, Nat.reduceMul, Nat.reduceSub, Nat.reduceLT, Int.reduceToNat]))
    all_goals (try exact ⟨_, _, rfl, hG3, z1, z2, z3⟩)
    all_goals (try exact ⟨_, hG3, z1, z2, z3⟩)
  · (try (simp only [decide_eq_true_eq, decide_eq_false_iff_not, Bool.not_eq_true', Bool.not_eq_false', Bool.and_eq_true, Bool.or_eq_true, Int.not_lt, Int.not_le] at hc)); (try (simp (disch := first | omega | (simp <;> omega) | fail) only [push_cast, ↓reduceIte, Nat.reduceEqDiff, Nat.reduceAdd, Nat.reduceMul, Nat.reduceSub, Nat.reduceLT, Int.reduceToNat]))
    (try (simp (disch := first | omega | (simp <;> omega) | fail) only [push_cast, ↓reduceIte, Nat.reduceEqDiff, Nat.reduceAdd, Nat.reduceMul, Nat.reduceSub, Nat.reduceLT, Int.reduceToNat]))
    all_goals (try exact ⟨_, hG, by omega, hpw, hka⟩)
theorem c_spec_l1Cur_many (b : Nat) (c : Option (List UInt8)) (K : Nat) (h : H) (n : Nat) (hcu : CurI h b c K) (hn : n ≤ 50) :
    Call Tryz.prog 73 [.adr b 0, .int .i64 n] h (fun b' => b' = b) (fun x g => ∃ l : List Str, GrD AV.str h g b c K x l ∧ l.length ≤ n) :=
  (c_spec_l1Cur_many_x b c K h n hcu hn).mono (fun x g hx => by
    obtain ⟨l, h1, h2, _⟩ := hx
    exact ⟨l, h1, h2⟩) (fun _ _ h => h)

theorem GsI.owO {n0 n : Nat} {h' : H} {v : AV} {L : List Bool} (hs : GsI AV.bool n0 h' v L) (hn : n ≤ n0) : ∃ o, Ow h' [v] [eO o] (fun c => n ≤ c) ∧ lO o = L := by
  obtain ⟨_, B, hs, hB⟩ := hs
  rcases hs.2 with ⟨rfl, h0, _⟩ | ⟨b, rfl, hb, hcb⟩
  · exact ⟨none, .atom rfl .nil, (List.eq_nil_of_length_eq_zero h0).symm⟩
  · exact ⟨some L, ow_map (f := AV.bool) (fun _ => rfl) hcb rfl (by have := hB b (by rw [hb]; simp); omega), rfl⟩
theorem c_spec_biList_o (t : Bt) (h1 : okBt t = true) : FnO Tryz.prog 74 [eB t] (fun v => ∃ o, v = eO o ∧ lO o = btL t) := by
  intro h
  refine enter (by kernel_rfl) e74 (by kernel_rfl) rfl fun hok => ?_
  simp only [r74, initEnv_1]
  obtain ⟨w1, w2, w3, w4⟩ := okBt_num h1
  have hat : ∀ i, atB t i = (numW (lI t.words)).testBit i := fun _ => rfl
  have hbt : btL t = (List.range t.size.toNat).map (atB t) := rfl
  generalize btL t = R at hbt
  obtain ⟨sz, ws⟩ := t
  simp only at w1 w2 w3 w4 hat hbt
  obtain ⟨n, rfl⟩ : ∃ n : Nat, sz = (n : Int) := ⟨sz.toNat, by omega⟩
  rw [Int.toNat_natCast] at hbt
  (try (simp (disch := first | omega | (simp <;> omega) | fail) only [push_cast, ↓reduceIte, Nat.reduceEqDiff, Nat.reduceAdd, Nat.reduceMul, Nat.reduceSub, Nat.reduceLT, Int.reduceToNat]))
  refine T_for n (fun k e h' => ∃ v, Pins e [(1, .adr h.length 0), (3, v), (4, .int .i64 k)] ∧ (GsI AV.bool (h.length + 1) h' v ((List.range k).map (atB ⟨(n : Int), ws⟩)) ∧ H.cells h' h.length = some [.int .i64 n, eI ws])) ?_ ?_
  · refine ⟨.nils, ?_⟩
    (try (simp (disch := first | omega | (simp <;> omega) | fail) only [push_cast, ↓reduceIte, Nat.reduceEqDiff, Nat.reduceAdd, Nat.reduceMul, Nat.reduceSub, Nat.reduceLT, Int.reduceToNat]))
    all_goals (try exact ⟨GsI.nil (by simp), by rw [cells_h0]; rfl⟩)
    all_goals (try exact GsI.nil (by simp))
  rintro k e h' hk ⟨v, hp, hs, hbx⟩
  refine T_pins hp fun e => ?_
  (try (simp (disch := first | omega | (simp <;> omega) | fail) only [push_cast, ↓reduceIte, Nat.reduceEqDiff, Nat.reduceAdd, Nat.reduceMul, Nat.reduceSub, Nat.reduceLT, Int.reduceToNat, hbx]))
  first | refine goC_split (fun hc => ?_) (fun hc => ?_) | refine cnd_split (fun hc => ?_) (fun hc => ?_)
  · (try (simp only [decide_eq_true_eq, decide_eq_false_iff_not, Bool.not_eq_true', Bool.not_eq_false', Bool.and_eq_true, Bool.or_eq_true, Int.not_lt, Int.not_le] at hc)); (try (simp (disch := first | omega | (simp <;> omega) | fail) only [push_cast, ↓reduceIte, Nat.reduceEqDiff, Nat.reduceAdd, Nat.reduceMul, Nat.reduceSub, Nat.reduceLT, Int.reduceToNat]))
    have hk2 : k < n := by omega
    have hll : ((List.range k).map (atB ⟨(n : Int), ws⟩)).length = k := by simp
    (try (simp (disch := first | omega | (simp <;> omega) | fail) only [push_cast, ↓reduceIte, Nat.reduceEqDiff, Nat.reduceAdd, Nat.reduceMul, Nat.reduceSub, Nat.reduceLT, Int.reduceToNat, hbx]))
    refine (c_spec_biAt ⟨n, ws⟩ (numW (lI ws)) (lI ws).length k w1 (by omega) (by omega)).call ?_
    rw [← hat k]
    (try (simp (disch := first | omega | (simp <;> omega) | fail) only [push_cast, ↓reduceIte, Nat.reduceEqDiff, Nat.reduceAdd, Nat.reduceMul, Nat.reduceSub, Nat.reduceLT, Int.reduceToNat]))
    refine hs.app (by_ := 1) (fun c hc => Or.inr (by omega)) (by omega) (by decide) fun v' h'' q1 q2 q3 => ?_
    have e1 : (List.range k).map (atB ⟨(n : Int), ws⟩) ++ [atB ⟨(n : Int), ws⟩ k] = (List.range (k + 1)).map (atB ⟨(n : Int), ws⟩) := by
      rw [List.range_succ, List.map_append]
      rfl
    rw [e1] at q1
    have hbx2 := cells_keep (q2 h.length (by omega)) hbx
    (try (simp (disch := first | omega | (simp <;> omega) | fail) only [push_cast, ↓reduceIte, Nat.reduceEqDiff, Nat.reduceAdd, Nat.reduceMul, Nat.reduceSub, Nat.reduceLT, Int.reduceToNat]))
    all_goals (try exact ⟨_, rfl, q1, hbx2⟩)
  · (try (simp only [decide_eq_true_eq, decide_eq_false_iff_not, Bool.not_eq_true', Bool.not_eq_false', Bool.and_eq_true, Bool.or_eq_true, Int.not_lt, Int.not_le] at hc)); (try (simp (disch := first | omega | (simp <;> omega) | fail) only [push_cast, ↓reduceIte, Nat.reduceEqDiff, Nat.reduceAdd, Nat.reduceMul, Nat.reduceSub, Nat.reduceLT, Int.reduceToNat]))
    have hke : k = n := by omega
    subst hke
    obtain ⟨o, w, l4⟩ := hs.owO (n := h.length) (by omega)
    have hfin : ∃ t', Ow h' [v] [t'] (fun c => h.length ≤ c) ∧ ∃ o, t' = eO o ∧ lO o = R := ⟨_, w, o, rfl, by rw [l4, hbt]⟩
    (try (simp (disch := first | omega | (simp <;> omega) | fail) only [push_cast, ↓reduceIte, Nat.reduceEqDiff, Nat.reduceAdd, Nat.reduceMul, Nat.reduceSub, Nat.reduceLT, Int.reduceToNat]))
    all_goals (try exact hfin)

theorem c_spec_l1Cur_pick2T (b : Nat) (c : Option (List UInt8)) (K : Nat) (h : H) (n : Int) (hcu : CurI h b c K) (hK : K ≤ 100000000) (hn : 200 < n) (hn2 : n ≤ 100000) :
    Call Tryz.prog 29 [.adr b 0, .int .i64 n] h (fun b' => b' = b) (fun x h' => (∃ m : Int, x = .int .i64 m ∧ 0 ≤ m ∧ m < n) ∧ CurS h h' b c (K + 2)) := by
  refine enter (by kernel_rfl) e29 (by kernel_rfl) rfl fun hok => ?_
  simp only [r29, initEnv_2]
  (try (simp (disch := first | omega | (simp <;> omega) | fail) only [push_cast, ↓reduceIte, Nat.reduceEqDiff, Nat.reduceAdd, Nat.reduceMul, Nat.reduceSub, Nat.reduceLT, Int.reduceToNat]))
  refine (c_spec_l1Cur_next b c K h hcu (by omega)).mono (fun x h' hx => ?_) (fun b' _ hb' => Or.inl hb')
  obtain ⟨⟨m, rfl, m0, m1⟩, hs⟩ := hx
  (try (simp (disch := first | omega | (simp <;> omega) | fail) only [push_cast, ↓reduceIte, Nat.reduceEqDiff, Nat.reduceAdd, Nat.reduceMul, Nat.reduceSub, Nat.reduceLT, Int.reduceToNat]))
  repeat' (with_reducible refine And.intro ?_ ?_)
  all_goals
    refine (c_spec_l1Cur_next b c (K + 1) h' hs.2.2 (by omega)).mono (fun x h2 hx => ?_) (fun b' _ hb' => Or.inl hb')
    obtain ⟨⟨m2, rfl, m20, m21⟩, hs2⟩ := hx
    have hs3 : CurS h h2 b c (K + 2) := ⟨hs2.1.trans hs.1, fun k hk => (hs2.2.1 k hk).trans (hs.2.1 k hk), hs2.2.2⟩
    have h1 := Int.emod_nonneg (m * 256 + m2) (show n ≠ 0 by omega)
    have h2 := Int.emod_lt_of_pos (m * 256 + m2) (show 0 < n by omega)
    (try (simp (disch := first | omega | (simp <;> omega) | fail) only [push_cast, ↓reduceIte, Nat.reduceEqDiff, Nat.reduceAdd, Nat.reduceMul, Nat.reduceSub, Nat.reduceLT, Int.reduceToNat]))
    all_goals (try exact ⟨⟨_, rfl, h1, h2⟩, hs3⟩)
theorem c_spec_l1Cur_pickA (b : Nat) (c : Option (List UInt8)) (K : Nat) (h : H) (n : Int) (hcu : CurI h b c K) (hK : K ≤ 10000000) (hn2 : n ≤ 100000) :
    Call Tryz.prog 29 [.adr b 0, .int .i64 n] h (fun b' => b' = b) (fun x h' => (∃ m : Int, x = .int .i64 m ∧ 0 ≤ m ∧ m ≤ 100000 ∧ (1 ≤ n → m < n)) ∧ CurF h h' b c (K + 2)) := by
  by_cases h1 : n ≤ 1
  · refine enter (by kernel_rfl) e29 (by kernel_rfl) rfl fun hok => ?_
    simp only [r29, initEnv_2]
    have h1' : (1 < n) = False := by simp; omega
    have hF := (CurF.refl hcu).mono (show K ≤ K + 2 by omega)
    (try (simp (disch := first | omega | (simp <;> omega) | fail) only [push_cast, ↓reduceIte, Nat.reduceEqDiff, Nat.reduceAdd, Nat.reduceMul, Nat.reduceSub, Nat.reduceLT, Int.reduceToNat, h1']))
    all_goals (try exact ⟨⟨_, rfl, by omega, by omega, fun h5 => by omega⟩, hF⟩)
  · by_cases h2 : n ≤ 200
    · exact (c_spec_l1Cur_pick b c K h n hcu (by omega) (by omega) h2).mono (fun x h' hx => by
        obtain ⟨⟨m, rfl, m0, m1⟩, hs⟩ := hx
        exact ⟨⟨m, rfl, m0, by omega, fun _ => m1⟩, hs.f.mono (by omega)⟩) (fun _ _ h => h)
    · exact (c_spec_l1Cur_pick2T b c K h n hcu (by omega) (by omega) hn2).mono (fun x h' hx => by
        obtain ⟨⟨m, rfl, m0, m1⟩, hs⟩ := hx
        exact ⟨⟨m, rfl, m0, by omega, fun _ => m1⟩, hs.f⟩) (fun _ _ h => h)
theorem c_spec_l1Cur_spoilt (b : Nat) (c : Option (List UInt8)) (K : Nat) (h : H) (t w : Str) (hcu : CurI h b c K) (hK : K ≤ 1000000) (hw : 1 < w.length) (hw2 : w.length ≤ 100) (ht : t.length ≤ 5000) :
    Call Tryz.prog 76 [.adr b 0, .str t, .str w] h (fun b' => b' = b) (fun x g => (∃ s : Str, x = .str s) ∧ CurF h g b c (K + 20)) := by
  refine Call.cur hcu.lt ?_
  refine enter (by kernel_rfl) e76 (by kernel_rfl) rfl fun hok => ?_
  simp only [r76, initEnv_3]
  have hbl := hcu.lt
  generalize hB : RCode.block 2 _ = B2
  (try (simp (disch := first | omega | (simp <;> omega) | fail) only [push_cast, ↓reduceIte, Nat.reduceEqDiff, Nat.reduceAdd, Nat.reduceMul, Nat.reduceSub, Nat.reduceLT, Int.reduceToNat]))
  refine (c_spec_l1Cur_pick b c K h 2 hcu (by omega) (by omega) (by omega)).mono (fun x h1 hx => ?_) (fun b' _ hb' => Or.inl hb')
  obtain ⟨⟨q, rfl, q0, q1⟩, hs⟩ := hx
  obtain ⟨mm, hmm⟩ : ∃ mm : Nat, 1 + q = (mm : Int) := ⟨(1 + q).toNat, by omega⟩
  have hF1 := hs.f
  have hcat : ∀ x y : Str, x.length ≤ 100000 → y.length ≤ 100000 → abin .add (.str x) (.str y) = some (.str (x ++ y)) := fun x y h1 h2 => abin_s_add (by omega)
  (try (simp (disch := first | omega | (simp <;> omega) | fail) only [push_cast, ↓reduceIte, Nat.reduceEqDiff, Nat.reduceAdd, Nat.reduceMul, Nat.reduceSub, Nat.reduceLT, Int.reduceToNat, hmm]))
  refine T_for mm (fun i e g => ∃ s : Str, Pins e [(0, .adr b 0), (1, .str s), (2, .str w), (7, .int .i64 ((mm : Int) - i))] ∧ CurF h g b c (K + 1 + 6 * i) ∧ s.length ≤ t.length + i) ?_ ?_
  · refine ⟨t, ?_, hF1, by omega⟩
    (try (simp (disch := first | omega | (simp <;> omega) | fail) only [push_cast, ↓reduceIte, Nat.reduceEqDiff, Nat.reduceAdd, Nat.reduceMul, Nat.reduceSub, Nat.reduceLT, Int.reduceToNat]))
    all_goals (try simp)
  rintro i e g hi ⟨s, hp, hF, hsl⟩
  refine T_pins hp fun e => ?_
  (try (simp (disch := first | omega | (simp <;> omega) | fail) only [push_cast, ↓reduceIte, Nat.reduceEqDiff, Nat.reduceAdd, Nat.reduceMul, Nat.reduceSub, Nat.reduceLT, Int.reduceToNat]))
  by_cases hi2 : i < mm
  · have hi3 : (0 < (mm : Int) - i) = True := by simp; omega
    by_cases hs0 : 0 < s.length
    · have hs0' : (0 < (s.length : Int)) = True := eq_true (by omega)
      (try (simp (disch := first | omega | (simp <;> omega) | fail) only [push_cast, ↓reduceIte, Nat.reduceEqDiff, Nat.reduceAdd, Nat.reduceMul, Nat.reduceSub, Nat.reduceLT, Int.reduceToNat, hi3, hs0']))
      refine (c_spec_l1Cur_pickA b c _ g s.length hF.2.2 (by omega) (by omega)).mono (fun x g2 hx => ?_) (fun b' _ hb' => Or.inl hb')
      obtain ⟨⟨m, rfl, m0, _, m1⟩, hF2⟩ := hx
      obtain ⟨p, rfl⟩ : ∃ p : Nat, m = (p : Int) := ⟨m.toNat, by omega⟩
      have hp1 := m1 (by omega)
      (try (simp (disch := first | omega | (simp <;> omega) | fail) only [push_cast, ↓reduceIte, Nat.reduceEqDiff, Nat.reduceAdd, Nat.reduceMul, Nat.reduceSub, Nat.reduceLT, Int.reduceToNat]))
      refine (c_spec_l1Cur_pick b c _ g2 w.length hF2.2.2 (by omega) (by omega) (by omega)).mono (fun x g3 hx => ?_) (fun b' _ hb' => Or.inl hb')
      obtain ⟨⟨k, rfl, k0, k1⟩, hs3⟩ := hx
      obtain ⟨k, rfl⟩ : ∃ p : Nat, k = (p : Int) := ⟨k.toNat, by omega⟩
      have hgw : sidxA (.str w) (.int .i64 k) = some (.int .u8 ((w.getD k 0).toNat : Int)) := sidxA_str (by omega) (by omega)
      have hcb : ∀ (n : Int), cbsA (g3 ++ [some (.cells [.int .u8 n])]) (.sl g3.length 0 1 1 1) = some (.str [UInt8.ofNat n.toNat]) := fun n => cbsA_1
      have hF3 := (hF.trans hF2).trans hs3.f
      (try (simp (disch := first | omega | (simp <;> omega) | fail) only [push_cast, ↓reduceIte, Nat.reduceEqDiff, Nat.reduceAdd, Nat.reduceMul, Nat.reduceSub, Nat.reduceLT, Int.reduceToNat, hgw, hcb]))
      have hF4 := hF3.more (l := [some (.cells [.int .u8 ((w.getD k 0).toNat : Int)])])
      refine (c_spec_l1Cur_pick b c _ _ 3 hF4.2.2 (by omega) (by omega) (by omega)).mono (fun x g5 hx => ?_) (fun b' _ hb' => Or.inl hb')
      obtain ⟨⟨r, rfl, r0, r1⟩, hs5⟩ := hx
      have hF5 := (hF4.trans hs5.f).mono (K' := K + 1 + 6 * (i + 1)) (by omega)
      obtain ⟨u, hu⟩ : ∃ u, u = [UInt8.ofNat (w.getD k 0).toNat] := ⟨_, rfl⟩
      have hul : u.length = 1 := by rw [hu]; rfl
      (try (simp (disch := first | omega | (simp <;> omega) | fail) only [push_cast, ↓reduceIte, Nat.reduceEqDiff, Nat.reduceAdd, Nat.reduceMul, Nat.reduceSub, Nat.reduceLT, Int.reduceToNat, ← hu]))
      rw [← hB]
      have hc1 := hcat (List.take (p - 0) (List.drop 0 s)) u (by simp; omega) (by omega)
      have hc2 := hcat (List.take (p - 0) (List.drop 0 s) ++ u) (List.take (s.length - p) (List.drop p s)) (by simp; omega) (by simp; omega)
      have hc3 := hcat (List.take (p - 0) (List.drop 0 s) ++ u) (List.take (s.length - (p + 1)) (List.drop (p + 1) s)) (by simp; omega) (by simp; omega)
      have hc4 := hcat (List.take (p - 0) (List.drop 0 s)) (List.take (s.length - (p + 1)) (List.drop (p + 1) s)) (by simp; omega) (by simp; omega)
      by_cases z0 : r = 0
      · (try (simp (disch := first | omega | (simp <;> omega) | fail) only [push_cast, ↓reduceIte, Nat.reduceEqDiff, Nat.reduceAdd, Nat.reduceMul, Nat.reduceSub, Nat.reduceLT, Int.reduceToNat, z0, hc1, hc2]))
        all_goals (try exact ⟨_, rfl, hF5, by simp; omega⟩)
        done
      by_cases z1 : r = 1
      · (try (simp (disch := first | omega | (simp <;> omega) | fail) only [push_cast, ↓reduceIte, Nat.reduceEqDiff, Nat.reduceAdd, Nat.reduceMul, Nat.reduceSub, Nat.reduceLT, Int.reduceToNat, z1, hc1, hc3]))
        all_goals (try exact ⟨_, rfl, hF5, by simp; omega⟩)
        done
      · (try (simp (disch := first | omega | (simp <;> omega) | fail) only [push_cast, ↓reduceIte, Nat.reduceEqDiff, Nat.reduceAdd, Nat.reduceMul, Nat.reduceSub, Nat.reduceLT, Int.reduceToNat, z0, z1, hc4]))
        all_goals (try exact ⟨_, rfl, hF5, by simp; omega⟩)
        done
    · have hs0' : (0 < (s.length : Int)) = False := eq_false (by omega)
      (try (simp (disch := first | omega | (simp <;> omega) | fail) only [push_cast, ↓reduceIte, Nat.reduceEqDiff, Nat.reduceAdd, Nat.reduceMul, Nat.reduceSub, Nat.reduceLT, Int.reduceToNat, hi3, hs0']))
      all_goals (try exact ⟨_, .free free_str, ⟨_, rfl⟩, hF.mono (by omega)⟩)
  · have hi3 : (0 < (mm : Int) - i) = False := by simp; omega
    (try (simp (disch := first | omega | (simp <;> omega) | fail) only [push_cast, ↓reduceIte, Nat.reduceEqDiff, Nat.reduceAdd, Nat.reduceMul, Nat.reduceSub, Nat.reduceLT, Int.reduceToNat, hi3]))
    all_goals (try exact ⟨_, .free free_str, ⟨_, rfl⟩, hF.mono (by omega)⟩)

theorem S1.vwB {h : H} {n0 : Nat} {v : AV} {l : List Bool} {B : List Nat} {n : Nat} (hs : S1 h 1 v n (l.map .bool) B) (hb : ∀ b ∈ B, n0 ≤ b) (hnn : v ≠ .nils) : Vw h n0 v (eO (some l)) := by
  have hvw := hs.vw (ts := l.map .bool) hb rfl (one_map fun _ => rfl) (fun i y t hy ht => by
    rw [hy] at ht
    injection ht with ht
    subst ht
    obtain ⟨s, _, rfl⟩ := List.mem_map.1 (List.mem_of_getElem? hy)
    exact .free free_bool)
  rcases hvw with ⟨_, h0, _⟩ | ⟨_, hv⟩
  · exact absurd h0 hnn
  · have : l.length = n := by simpa using hs.1
    subst this
    exact hv
theorem S1.vwB0 {h : H} {n0 n : Nat} {v : AV} {l : List Bool} {B : List Nat} (hs : S1 h 1 v n (l.map .bool) B) (hb : ∀ b ∈ B, n0 ≤ b) : ∃ o, Vw h n0 v (eO o) ∧ lO o = l := by
  by_cases hn : v = .nils
  · subst hn
    rcases hs.2 with ⟨_, h0, _⟩ | ⟨b, hh, _⟩
    · have hl : l = [] := List.eq_nil_of_length_eq_zero (by have := hs.1; simp at this; omega)
      exact ⟨none, .free free_nils, hl.symm⟩
    · cases hh
  · exact ⟨some l, hs.vwB hb hn, rfl⟩

/-- The bits that are drawn, so far. -/
def BdI (h h' : H) (b : Nat) (c : Option (List UInt8)) (K : Nat) (v : AV) (L : List Bool) : Prop :=
  h.length < h'.length ∧ b < h.length ∧ CurI h' b c K ∧ h'.cells h.length = some [.int .i64 0, .nils] ∧ (∀ k, k < h.length → k ≠ b → h'[k]? = h[k]?) ∧ ∃ B, S1 h' 1 v L.length (L.map .bool) B ∧ ∀ k ∈ B, h.length + 1 ≤ k
theorem BdI.step {h h' h2 : H} {b K K' : Nat} {c : Option (List UInt8)} {v : AV} {L : List Bool} (hp : BdI h h' b c K v L) (hs : CurS h' h2 b c K') : BdI h h2 b c K' v L := by
  obtain ⟨p1, p2, p3, p4, p5, B, p6, p7⟩ := hp
  obtain ⟨s1, s2, s3⟩ := hs
  exact ⟨by omega, p2, s3, cells_keep (s2 _ (by omega)) p4, fun k hk hn => (s2 k hn).trans (p5 k hk hn), B, p6.frame fun k hk => s2 k (by have := p7 k hk; omega), p7⟩
theorem BdI.app {h h' : H} {b K : Nat} {c : Option (List UInt8)} {v : AV} {L : List Bool} {q : Bool} {pm : Nat → Prop} {Q : AV → H → Prop} (hp : BdI h h' b c K v L) (hpm : ∀ k, h.length ≤ k → pm k) (hb : (L.length + 1) * 1 ≤ 140737488355328)
    (hQ : ∀ v' h2, BdI h h2 b c K v' (L ++ [q]) → Q v' h2) : apA pm (h' ++ [some (.cells [.bool q])]) Q 1 1 (some ([.bool q], 1)) v := by
  obtain ⟨p1, p2, p3, p4, p5, B, p6, p7⟩ := hp
  refine (p6.frame (h' := h' ++ _) fun k hk => List.getElem?_append_left (p6.lt k hk)).app0 (new := [.bool q]) (k := 1) (by_ := 1) (fun k hk => hpm k (by have := p7 k hk; omega)) rfl hb fun v2 h2 B2 a1 a2 a3 a4 a5 => ?_
  simp only [List.length_append, List.length_cons, List.length_nil] at a2 a3 a4
  have hk2 : ∀ k, k < h'.length → k ∉ B → h2[k]? = h'[k]? := fun k hk hn => (a3 k (by omega) hn).trans (List.getElem?_append_left hk)
  refine hQ v2 h2 ⟨by omega, p2, p3.frame (hk2 _ (by omega) fun hb => by have := p7 _ hb; omega), cells_keep (hk2 _ p1 fun hb => by have := p7 _ hb; omega) p4, fun k hk hn => (hk2 k (by omega) fun hb => by have := p7 _ hb; omega).trans (p5 k hk hn), B2, by simpa using a1, fun k hk => ?_⟩
  rcases a4 k hk with h5 | h5
  · exact p7 k h5
  · omega

theorem c_spec_l1Cur_bits (b : Nat) (c : Option (List UInt8)) (K : Nat) (h : H) (most : Nat) (hc : CurI h b c K) (hK : K ≤ 100000000) (h1 : 1 ≤ most) (h2 : most ≤ 150) :
    Call Tryz.prog 127 [.adr b 0, .int .i64 most] h (fun b' => b' = b) (fun x h' => ∃ (n m bb B : Nat), x = .agg [.int .i64 n, .sl bb 0 1 m m] ∧ n ≤ most ∧ (((n : Int) + 15) / 16) = (m : Int) ∧ h.length ≤ bb ∧ h.length ≤ h'.length ∧ (∀ k, k < h.length → k ≠ b → h'[k]? = h[k]?) ∧ CurI h' b c (K + 1 + most) ∧ h'.cells bb = some ((wordsN B m).map (.int .i64))) := by
  refine enter (by kernel_rfl) e127 (by kernel_rfl) rfl fun hok => ?_
  simp only [r127, initEnv_2]
  have hbl := hc.lt
  (try (simp (disch := first | omega | (simp <;> omega) | fail) only [push_cast, ↓reduceIte, Nat.reduceEqDiff, Nat.reduceAdd, Nat.reduceMul, Nat.reduceSub, Nat.reduceLT, Int.reduceToNat]))
  refine (c_spec_l1Cur_pick b c K _ ((most : Int) + 1) (hc.frame (List.getElem?_append_left hbl)) (by omega) (by omega) (by omega)).mono (fun x h3 hx => ?_) (fun b' _ hb' => Or.inl hb')
  obtain ⟨⟨n0, rfl, m0, m1⟩, hs⟩ := hx
  obtain ⟨n, rfl⟩ : ∃ n : Nat, n0 = (n : Int) := ⟨n0.toNat, by omega⟩
  have hp0 : BdI h h3 b c (K + 1) .nils [] := by
    obtain ⟨s1, s2, s3⟩ := hs
    simp only [List.length_append, List.length_cons, List.length_nil] at s1
    exact ⟨by omega, hbl, s3, cells_keep (s2 _ (by omega)) (by rw [cells_h0]; rfl), fun k hk hn => (s2 k hn).trans (List.getElem?_append_left hk), [], by simpa using S1.nil, by simp⟩
  (try (simp (disch := first | omega | (simp <;> omega) | fail) only [push_cast, ↓reduceIte, Nat.reduceEqDiff, Nat.reduceAdd, Nat.reduceMul, Nat.reduceSub, Nat.reduceLT, Int.reduceToNat]))
  refine T_for n (fun i e h' => ∃ v L, Pins e [(0, .adr b 0), (4, .adr h.length 0), (5, v), (6, .int .i64 ((n : Int) - i))] ∧ BdI h h' b c (K + 1 + i) v L ∧ L.length = i) ?_ ?_
  · refine ⟨.nils, [], ?_, hp0, rfl⟩
    (try (simp (disch := first | omega | (simp <;> omega) | fail) only [push_cast, ↓reduceIte, Nat.reduceEqDiff, Nat.reduceAdd, Nat.reduceMul, Nat.reduceSub, Nat.reduceLT, Int.reduceToNat]))
    all_goals (try simp)
  rintro i e h' hi ⟨v, L, hp, hb, hL⟩
  refine T_pins hp fun e => ?_
  (try (simp (disch := first | omega | (simp <;> omega) | fail) only [push_cast, ↓reduceIte, Nat.reduceEqDiff, Nat.reduceAdd, Nat.reduceMul, Nat.reduceSub, Nat.reduceLT, Int.reduceToNat]))
  first | refine goC_split (fun hd => ?_) (fun hd => ?_) | refine cnd_split (fun hd => ?_) (fun hd => ?_)
  · (try (simp only [decide_eq_true_eq, decide_eq_false_iff_not, Bool.not_eq_true', Bool.not_eq_false', Bool.and_eq_true, Bool.or_eq_true, Int.not_lt, Int.not_le] at hd)); (try (simp (disch := first | omega | (simp <;> omega) | fail) only [push_cast, ↓reduceIte, Nat.reduceEqDiff, Nat.reduceAdd, Nat.reduceMul, Nat.reduceSub, Nat.reduceLT, Int.reduceToNat]))
    have hi2 : i < n := by omega
    refine (c_spec_l1Cur_one b c (K + 1 + i) h' 2 hb.2.2.1 (by omega) (by omega) (by omega)).mono (fun x h4 hx => ?_) (fun b' _ hb' => Or.inl hb')
    obtain ⟨⟨t, rfl⟩, hs4⟩ := hx
    have hb4 := hb.step hs4
    (try (simp (disch := first | omega | (simp <;> omega) | fail) only [push_cast, ↓reduceIte, Nat.reduceEqDiff, Nat.reduceAdd, Nat.reduceMul, Nat.reduceSub, Nat.reduceLT, Int.reduceToNat]))
    refine BdI.app hb4 (fun k hk => Or.inr hk) (by omega) fun v2 h5 hb5 => ?_
    (try (simp (disch := first | omega | (simp <;> omega) | fail) only [push_cast, ↓reduceIte, Nat.reduceEqDiff, Nat.reduceAdd, Nat.reduceMul, Nat.reduceSub, Nat.reduceLT, Int.reduceToNat]))
    have hb6 : BdI h h5 b c (K + 1 + (i + 1)) v2 (L ++ [t]) := hb5
    have hn6 : ((n : Int) - i) - 1 = (n : Int) - ((i : Int) + 1) := by omega
    all_goals (try exact ⟨_, _, rfl, hb6, by simp [hL]⟩)
    all_goals (try exact ⟨_, _, ⟨rfl, by omega⟩, hb6, by simp [hL]⟩)
    all_goals (try exact ⟨_, _, ⟨rfl, by rw [hn6]⟩, hb6, by simp [hL]⟩)
  · (try (simp only [decide_eq_true_eq, decide_eq_false_iff_not, Bool.not_eq_true', Bool.not_eq_false', Bool.and_eq_true, Bool.or_eq_true, Int.not_lt, Int.not_le] at hd)); (try (simp (disch := first | omega | (simp <;> omega) | fail) only [push_cast, ↓reduceIte, Nat.reduceEqDiff, Nat.reduceAdd, Nat.reduceMul, Nat.reduceSub, Nat.reduceLT, Int.reduceToNat]))
    have hie : i = n := by omega
    subst hie
    obtain ⟨p1, p2, p3, p4, p5, B, p6, p7⟩ := hb
    obtain ⟨o, ho1, ho2⟩ := (p6.frame (h' := filt (fun k => decide (h.length + 1 ≤ k)) h') fun k hk => filt_t (by simpa using p7 k hk)).vwB0 (n0 := 0) (fun _ _ => Nat.zero_le _)
    (try (simp (disch := first | omega | (simp <;> omega) | fail) only [push_cast, ↓reduceIte, Nat.reduceEqDiff, Nat.reduceAdd, Nat.reduceMul, Nat.reduceSub, Nat.reduceLT, Int.reduceToNat]))
    refine Call.sink (fun k => decide (h.length + 1 ≤ k)) (ts := [eO o]) rfl (fun k x t hx ht => ?_) (fun b _ hb => Or.inr (by have := of_decide_eq_true hb; omega)) ?_
    · rcases k with _ | k
      · simp at hx ht
        subst hx ht
        exact .inr ho1
      · simp at hx
    have hol : (lO o).length = i := by rw [ho2, hL]
    have g1 : H.cells (filt (fun k => !decide (h.length + 1 ≤ k)) h') h.length = some [.int .i64 0, .nils] := cells_keep (filt_t (by simp)) p4
    have g2 : ∀ k, k < h.length → (filt (fun k => !decide (h.length + 1 ≤ k)) h')[k]? = h'[k]? := fun k hk => filt_t (by simp; omega)
    have g3 : h.length < (filt (fun k => !decide (h.length + 1 ≤ k)) h').length := by rw [filt_len]; exact p1
    have g4 := p3.frame (g2 b p2)
    generalize filt (fun k => !decide (h.length + 1 ≤ k)) h' = g at *
    refine (c_spec_biSome o ((i + 15) / 16) (by rw [hol]; omega) (by omega) g).mono (fun x g5 hx => ?_) (fun _ _ h => h.elim)
    rw [hol] at hx
    generalize bitN (lO o) i = X at hx
    obtain ⟨bb, rfl, q1, q2, q3, q4⟩ := hx
    have r1 := cells_keep (q3 _ g3) g1
    have hw := cells_wr2 (cells_lt r1) (cs := [AV.int .i64 (i : Int), .sl bb 0 1 ((i + 15) / 16) ((i + 15) / 16)])
    have hpm : (h.length ≤ h.length) = True := by simp
    have hwk : ∀ k, k ≠ h.length → (wr g5 h.length [AV.int .i64 (i : Int), .sl bb 0 1 ((i + 15) / 16) ((i + 15) / 16)])[k]? = g5[k]? := fun k hk => by
      unfold wr
      rw [List.getElem?_set_ne (Ne.symm hk)]
    have f1 : ∀ k, k < h.length → k ≠ b → (wr g5 h.length [AV.int .i64 (i : Int), .sl bb 0 1 ((i + 15) / 16) ((i + 15) / 16)])[k]? = h[k]? := fun k hk hn => (hwk k (by omega)).trans ((q3 k (by omega)).trans ((g2 k hk).trans (p5 k hk hn)))
    have f2 : CurI (wr g5 h.length [AV.int .i64 (i : Int), .sl bb 0 1 ((i + 15) / 16) ((i + 15) / 16)]) b c (K + 1 + most) := ((g4.frame (q3 b (by omega))).frame (hwk b (by omega))).mono (by omega)
    have f3 := cells_keep (hwk bb (by omega)) q4
    have f4 : h.length ≤ (wr g5 h.length [AV.int .i64 (i : Int), .sl bb 0 1 ((i + 15) / 16) ((i + 15) / 16)]).length := by simp [wr]; omega
    (try (simp (disch := first | omega | (simp <;> omega) | fail) only [push_cast, ↓reduceIte, Nat.reduceEqDiff, Nat.reduceAdd, Nat.reduceMul, Nat.reduceSub, Nat.reduceLT, Int.reduceToNat, r1, hpm, hw]))
    all_goals (try exact ⟨i, (i + 15) / 16, bb, X, rfl, by omega, by omega, by omega, f4, f1, f2, f3⟩)
    all_goals (try exact ⟨i, (i + 15) / 16, bb, X, rfl, by omega, by omega, by omega, f1, f2, f3⟩)

theorem c_spec_l1Cur_among (b : Nat) (c : Option (List UInt8)) (K : Nat) (h : H) (b2 : Nat) (L : List Int) (hc : CurI h b c K) (hK : K ≤ 1000000000) (hL : 1 < L.length) (hL2 : L.length ≤ 200) (hb2 : h.cells b2 = some (L.map (.int .i64))) (hne : b2 ≠ b) :
    Call Tryz.prog 31 [.adr b 0, .sl b2 0 1 L.length L.length] h (fun b' => b' = b) (fun x h' => (∃ m : Int, x = .int .i64 m ∧ m ∈ L) ∧ CurS h h' b c (K + 1)) := by
  refine enter (by kernel_rfl) e31 (by kernel_rfl) rfl fun hok => ?_
  simp only [r31, initEnv_2]
  (try (simp (disch := first | omega | (simp <;> omega) | fail) only [push_cast, ↓reduceIte, Nat.reduceEqDiff, Nat.reduceAdd, Nat.reduceMul, Nat.reduceSub, Nat.reduceLT, Int.reduceToNat]))
  refine (c_spec_l1Cur_pick b c K h L.length hc hK (by omega) (by omega)).mono (fun x h' hx => ?_) (fun b' _ hb' => Or.inl hb')
  obtain ⟨⟨m, rfl, m0, m1⟩, hs⟩ := hx
  have hb3 : h'.cells b2 = some (L.map (.int .i64)) := by
    rw [cells_eq, hs.2.1 b2 hne, ← cells_eq]
    exact hb2
  have hmem : L.getD m.toNat 0 ∈ L := by
    have : m.toNat < L.length := by omega
    simp [this]
  (try (simp (disch := first | omega | (simp <;> omega) | fail) only [push_cast, ↓reduceIte, Nat.reduceEqDiff, Nat.reduceAdd, Nat.reduceMul, Nat.reduceSub, Nat.reduceLT, Int.reduceToNat, hb3]))
  all_goals (try exact ⟨⟨_, rfl, hmem⟩, hs⟩)

/-- A vector of the call's own, in a box. -/
def AbI (h h' : H) (b : Nat) (c : Option (List UInt8)) (K b3 N : Nat) : Prop :=
  b < h.length ∧ h.length + 1 ≤ b3 ∧ CurI h' b c K ∧ h'.cells h.length = some [.int .i64 0, .nils] ∧ (∀ k, k < h.length → k ≠ b → h'[k]? = h[k]?) ∧
  ∃ (n : Int) (v : AV) (l : List Int), h'.cells b3 = some [.int .i64 n, v] ∧ -(N : Int) ≤ n ∧ n ≤ 5000 + (N : Int) ∧ l.length ≤ N ∧ (∃ bb, v = .sl bb 0 1 l.length l.length ∧ h'.cells bb = some (l.map (.int .i64)) ∧ h.length + 1 ≤ bb ∧ bb ≠ b3)
theorem AbI.step {h h' h2 : H} {b K K' b3 N : Nat} {c : Option (List UInt8)} (hp : AbI h h' b c K b3 N) (hs : CurS h' h2 b c K') : AbI h h2 b c K' b3 N := by
  obtain ⟨p1, p2, p3, p4, p5, n, v, l, p6, p7, p8, p9, bb, p10, p11, p12, p13⟩ := hp
  obtain ⟨s1, s2, s3⟩ := hs
  exact ⟨p1, p2, s3, cells_keep (s2 _ (by omega)) p4, fun k hk hn => (s2 k hn).trans (p5 k hk hn), n, v, l, cells_keep (s2 _ (by omega)) p6, p7, p8, p9, bb, p10, cells_keep (s2 _ (by omega)) p11, p12, p13⟩
theorem AbI.more {h h' l : H} {b K b3 N : Nat} {c : Option (List UInt8)} (hp : AbI h h' b c K b3 N) : AbI h (h' ++ l) b c K b3 N := by
  obtain ⟨p1, p2, p3, p4, p5, n, v, l, p6, p7, p8, p9, bb, p10, p11, p12, p13⟩ := hp
  have h0 := cells_lt p4
  exact ⟨p1, p2, p3.frame (List.getElem?_append_left p3.lt), cells_app p4, fun k hk hn => (List.getElem?_append_left (by omega)).trans (p5 k hk hn), n, v, l, cells_app p6, p7, p8, p9, bb, p10, cells_app p11, p12, p13⟩
theorem AbI.monoK {h h' : H} {b K K' b3 N : Nat} {c : Option (List UInt8)} (hp : AbI h h' b c K b3 N) (hk : K ≤ K') : AbI h h' b c K' b3 N := by
  obtain ⟨p1, p2, p3, p4⟩ := hp
  exact ⟨p1, p2, p3.mono hk, p4⟩
theorem AbI.store {h g g2 : H} {b K b3 N N2 bb2 : Nat} {c : Option (List UInt8)} {n2 : Int} {l2 : List Int} (hp : AbI h g b c K b3 N) (hk : ∀ k, k < h.length + 1 ∨ k = b3 → g2[k]? = g[k]?) (hl : g.length ≤ g2.length) (h1 : -(N2 : Int) ≤ n2) (h2 : n2 ≤ 5000 + (N2 : Int)) (h3 : l2.length ≤ N2) (hb : g2.cells bb2 = some (l2.map (.int .i64))) (hb1 : h.length + 1 ≤ bb2) (hb2 : bb2 ≠ b3) :
    AbI h (wr g2 b3 [.int .i64 n2, .sl bb2 0 1 l2.length l2.length]) b c K b3 N2 := by
  obtain ⟨p1, p2, p3, p4, p5, n, v, l, p6, _⟩ := hp
  have hb3 := cells_lt p6
  have hw : ∀ k, k ≠ b3 → (wr g2 b3 [.int .i64 n2, .sl bb2 0 1 l2.length l2.length])[k]? = g2[k]? := fun k hk => by
    unfold wr
    rw [List.getElem?_set_ne (Ne.symm hk)]
  exact ⟨p1, p2, p3.frame ((hw _ (by omega)).trans (hk _ (.inl (by omega)))), cells_keep ((hw _ (by omega)).trans (hk _ (.inl (by omega)))) p4, fun k hk1 hn => (hw _ (by omega)).trans ((hk _ (.inl (by omega))).trans (p5 k hk1 hn)), n2, _, l2, cells_wr2 (by omega), h1, h2, h3, bb2, rfl, cells_keep (hw _ hb2) hb, hb1, hb2⟩
theorem AbI.put {h g : H} {b K b3 N bb : Nat} {c : Option (List UInt8)} {n : Int} {l l2 : List Int} (hp : AbI h g b c K b3 N) (h6 : g.cells b3 = some [.int .i64 n, .sl bb 0 1 l.length l.length]) (hn1 : -(N : Int) ≤ n) (hn2 : n ≤ 5000 + (N : Int)) (hN : l.length ≤ N) (hb1 : h.length + 1 ≤ bb) (hb2 : bb ≠ b3) (hb : bb < g.length) (hl : l2.length = l.length) :
    AbI h (wr g bb (l2.map (.int .i64))) b c K b3 N := by
  obtain ⟨p1, p2, p3, p4, p5, _⟩ := hp
  have hw : ∀ k, k ≠ bb → (wr g bb (l2.map (.int .i64)))[k]? = g[k]? := fun k hk => by
    unfold wr
    rw [List.getElem?_set_ne (Ne.symm hk)]
  exact ⟨p1, p2, p3.frame (hw _ (by omega)), cells_keep (hw _ (by omega)) p4, fun k hk1 hn => (hw _ (by omega)).trans (p5 k hk1 hn), n, _, l2, cells_keep (hw _ (Ne.symm hb2)) h6, hn1, hn2, by omega, bb, by rw [hl], cells_wr2 hb, hb1, hb2⟩
theorem set_over2 {vs : List Int} {i : Nat} {x : Int} (hi : i < vs.length) : over (vs.map (AV.int .i64)) i [.int .i64 x] = (vs.set i x).map (.int .i64) := by
  rw [over_set (by simpa using hi), List.map_set]

set_option maxHeartbeats 4000000 in
theorem c_spec_l1Cur_anyBits_x (b : Nat) (c : Option (List UInt8)) (K : Nat) (h : H) (hc : CurI h b c K) (hK : K ≤ 10000000) :
    Call Tryz.prog 77 [.adr b 0] h (fun b' => b' = b) (fun x h' => ∃ (n : Int) (l : List Int) (bb : Nat), n ≤ 5300 ∧ x = .agg [.int .i64 n, .sl bb 0 1 l.length l.length] ∧ l.length ≤ 300 ∧ h.length ≤ bb ∧ h.length ≤ h'.length ∧ (∀ k, k < h.length → k ≠ b → h'[k]? = h[k]?) ∧ CurI h' b c (K + 60) ∧ h'.cells bb = some (l.map (.int .i64))) := by
  refine enter (by kernel_rfl) e77 (by kernel_rfl) rfl fun hok => ?_
  simp only [r77, initEnv_1]
  generalize hD : RCode.block 0 _ = D
  have hbl := hc.lt
  (try (simp (disch := first | omega | (simp <;> omega) | fail) only [push_cast, ↓reduceIte, Nat.reduceEqDiff, Nat.reduceAdd, Nat.reduceMul, Nat.reduceSub, Nat.reduceLT, Int.reduceToNat]))
  refine (c_spec_l1Cur_bits b c K _ 40 (hc.frame (List.getElem?_append_left hbl)) (by omega) (by omega) (by omega)).mono (fun x h1 hx => ?_) (fun b' _ hb' => Or.inl hb')
  obtain ⟨n, m, bb, B, rfl, q1, q2, q3, q4, q5, q6, q7⟩ := hx
  simp only [List.length_append, List.length_cons, List.length_nil] at q3 q4
  have hA : AbI h (h1 ++ [some (.cells [.int .i64 n, .sl bb 0 1 m m])]) b c (K + 41) h1.length 10 := by
    have hb1 := cells_lt q7
    refine ⟨hbl, by omega, (q6.frame (List.getElem?_append_left q6.lt)).mono (by omega), cells_app (cells_keep (q5 h.length (by simp) (by omega)) (by rw [cells_h0]; rfl)), fun k hk hn => (List.getElem?_append_left (by omega)).trans ((q5 k (by simp; omega) hn).trans (List.getElem?_append_left hk)), n, _, wordsN B m, by rw [cells_h0]; rfl, by omega, by omega, by rw [wordsN_len]; omega, bb, by rw [wordsN_len], cells_app q7, by omega, by omega⟩
  clear q1 q2 q5 q6 q7
  have hb3 : h1.length = h1.length := rfl
  (try (simp (disch := first | omega | (simp <;> omega) | fail) only [push_cast, ↓reduceIte, Nat.reduceEqDiff, Nat.reduceAdd, Nat.reduceMul, Nat.reduceSub, Nat.reduceLT, Int.reduceToNat]))
  generalize hG : h1 ++ [some (.cells [.int .i64 (n : Int), .sl bb 0 1 m m])] = g at *
  generalize h1.length = b3 at *
  refine (c_spec_l1Cur_pick b c (K + 41) _ 16 hA.2.2.1 (by omega) (by omega) (by omega)).mono (fun x h2 hx => ?_) (fun b' _ hb' => Or.inl hb')
  obtain ⟨⟨k, rfl, k0, k1⟩, hs⟩ := hx
  have hA2 := hA.step hs
  clear hA hG hs
  (try (simp (disch := first | omega | (simp <;> omega) | fail) only [push_cast, ↓reduceIte, Nat.reduceEqDiff, Nat.reduceAdd, Nat.reduceMul, Nat.reduceSub, Nat.reduceLT, Int.reduceToNat]))
  refine T_cut (fun e g => Pins e [(2, .adr h.length 0), (3, .adr b3 0)] ∧ AbI h g b c (K + 60) b3 300) ?_ ?_
  · rw [← hD]
    obtain ⟨p1, p2, p3, p4, p5, n, v, l, p6, p7, p8, p9, bb, hv, p11, p12, p13⟩ := id hA2
    have hv1 : one v = true := by rw [hv]; rfl
    have hv2 : cellsOf v = [v] := by rw [hv]; rfl
    have hb3 := cells_lt p6
    have hbb := cells_lt p11
    have p6' : ∀ l' : H, H.cells (h2 ++ l') b3 = some [.int .i64 n, v] := fun l' => cells_app p6
    by_cases z0 : k = 0
    · (try (simp (disch := first | omega | (simp <;> omega) | fail) only [push_cast, ↓reduceIte, Nat.reduceEqDiff, Nat.reduceAdd, Nat.reduceMul, Nat.reduceSub, Nat.reduceLT, Int.reduceToNat, z0, p6, reads, List.mem_cons, List.mem_append, List.not_mem_nil, nat_ff, or_self, or_false, false_or, not_false_eq_true]))
      repeat' (with_reducible refine And.intro ?_ ?_)
      all_goals
        refine (c_spec_l1Cur_pick b c (K + 42) _ 2 hA2.2.2.1 (by omega) (by omega) (by omega)).mono (fun x h4 hx => ?_) (fun b' _ hb' => Or.inl hb')
        obtain ⟨⟨q, rfl, q0, q1⟩, hs⟩ := hx
        have hA4 := hA2.step hs
        have r6 := cells_keep (hs.2.1 b3 (by omega)) p6
        have r6' : ∀ l' : H, H.cells (h4 ++ l') b3 = some [.int .i64 n, v] := fun l' => cells_app r6
        have r11 := cells_keep (hs.2.1 bb (by omega)) p11
        have hs1 : S1 h4 1 v l.length (l.map (.int .i64)) [bb] := ⟨by simp, .inr ⟨bb, hv, rfl, r11⟩⟩
        have l4 := cells_lt r11
        have l5 := cells_lt r6
        (try (simp (disch := first | omega | (simp <;> omega) | fail) only [push_cast, ↓reduceIte, Nat.reduceEqDiff, Nat.reduceAdd, Nat.reduceMul, Nat.reduceSub, Nat.reduceLT, Int.reduceToNat, r6, r6', reads, List.mem_cons, List.mem_append, List.not_mem_nil, nat_ff, or_self, or_false, false_or, not_false_eq_true]))
        repeat' (with_reducible refine And.intro ?_ ?_)
      all_goals
        refine (hs1.frame (h' := h4 ++ _) fun k hk => List.getElem?_append_left (hs1.lt k hk)).app0 (new := [.int .i64 q]) (k := 1) (by_ := 8) (fun k hk => Or.inr (by simp at hk; omega)) rfl (by omega) fun v2 h5 B2 a1 a2 a3 a4 a5 => ?_
        rcases a1.2 with ⟨_, h0, _⟩ | ⟨b2, rfl, rfl, hc2⟩
        · omega
        simp only [List.length_append, List.length_cons, List.length_nil] at a2 a3 a4
        have l6 := cells_lt p4
        have l7 := hs.1
        have hk5 : ∀ k, k < h.length + 1 ∨ k = b3 → h5[k]? = h4[k]? := fun k hk => (a3 k (by omega) (by simp; omega)).trans (List.getElem?_append_left (by omega))
        have hb2 := a4 b2 (by simp)
        simp only [List.mem_singleton] at hb2
        have hlen : (l ++ [q]).length = l.length + 1 := by simp
        have hfin := hA4.store (n2 := n) (l2 := l ++ [q]) (bb2 := b2) (N2 := 300) hk5 (by omega) (by omega) (by omega) (by rw [hlen]; omega) (by simpa using hc2) (by omega) (by omega)
        have t6 := cells_keep (hk5 b3 (.inr rfl)) r6
        rw [hlen] at hfin
        (try (simp (disch := first | omega | (simp <;> omega) | fail) only [push_cast, ↓reduceIte, Nat.reduceEqDiff, Nat.reduceAdd, Nat.reduceMul, Nat.reduceSub, Nat.reduceLT, Int.reduceToNat, t6, reads, List.mem_cons, List.mem_append, List.not_mem_nil, nat_ff, or_self, or_false, false_or, not_false_eq_true]))
        all_goals (try exact hfin.monoK (by omega))
    by_cases z1 : k = 1
    · (try (simp (disch := first | omega | (simp <;> omega) | fail) only [push_cast, ↓reduceIte, Nat.reduceEqDiff, Nat.reduceAdd, Nat.reduceMul, Nat.reduceSub, Nat.reduceLT, Int.reduceToNat, z1, p6, reads, List.mem_cons, List.mem_append, List.not_mem_nil, nat_ff, or_self, or_false, false_or, not_false_eq_true]))
      repeat' (with_reducible refine And.intro ?_ ?_)
      all_goals
        refine (c_spec_l1Cur_pick b c (K + 42) _ 3 hA2.2.2.1 (by omega) (by omega) (by omega)).mono (fun x h4 hx => ?_) (fun b' _ hb' => Or.inl hb')
        obtain ⟨⟨q, rfl, q0, q1⟩, hs⟩ := hx
        have hA4 := hA2.step hs
        have r6 := cells_keep (hs.2.1 b3 (by omega)) p6
        have r11 := cells_keep (hs.2.1 bb (by omega)) p11
        have hfin := hA4.store (n2 := n + (q - 1)) (l2 := l) (bb2 := bb) (N2 := 300) (fun _ _ => rfl) (Nat.le_refl _) (by omega) (by omega) (by omega) r11 (by omega) (by omega)
        rw [← hv] at hfin
        (try (simp (disch := first | omega | (simp <;> omega) | fail) only [push_cast, ↓reduceIte, Nat.reduceEqDiff, Nat.reduceAdd, Nat.reduceMul, Nat.reduceSub, Nat.reduceLT, Int.reduceToNat, r6, reads, List.mem_cons, List.mem_append, List.not_mem_nil, nat_ff, or_self, or_false, false_or, not_false_eq_true]))
      all_goals (try exact hfin.monoK (by omega))
    by_cases z2 : k = 2
    · have hlv : lenA v = some (.int .i64 l.length) := by rw [hv]; rfl
      have hrep : List.replicate 4 (AV.int .i64 0) = [.int .i64 0, .int .i64 0, .int .i64 0, .int .i64 0] := rfl
      have ov0 := fun x0 x1 x2 x3 y => (over4 x0 x1 x2 x3 y).1
      have ov1 := fun x0 x1 x2 x3 y => (over4 x0 x1 x2 x3 y).2.1
      have ov2 := fun x0 x1 x2 x3 y => (over4 x0 x1 x2 x3 y).2.2.1
      have ov3 := fun x0 x1 x2 x3 y => (over4 x0 x1 x2 x3 y).2.2.2
      have hfin0 : AbI h h2 b c (K + 60) b3 300 := by
        obtain ⟨o1, o2, o3, o4, o5, n', v', l', o6, o7, o8, o9, o10⟩ := hA2.monoK (show K + 41 + 1 ≤ K + 60 by omega)
        exact ⟨o1, o2, o3, o4, o5, n', v', l', o6, by omega, by omega, by omega, o10⟩
      have fin : ∀ (g h7 : H) (q m : Int) (K' : Nat), AbI h g b c K' b3 10 → CurS g h7 b c (K + 50) → g.cells b3 = some [.int .i64 n, v] → g.cells bb = some (l.map (.int .i64)) → h7.cells bb = some (l.map (.int .i64)) ∧ AbI h (wr h7 bb ((l.set q.toNat m).map (.int .i64))) b c (K + 60) b3 300 := fun g h7 q m K' hg hs g6 g11 => by
        have hA7 := (hg.step hs).monoK (show K + 50 ≤ K + 60 by omega)
        have t6 := cells_keep (hs.2.1 b3 (by omega)) g6
        have t11 := cells_keep (hs.2.1 bb (by omega)) g11
        rw [hv] at t6
        have := hA7.put (l2 := l.set q.toNat m) t6 p7 p8 p9 p12 p13 (cells_lt t11) (by simp)
        obtain ⟨o1, o2, o3, o4, o5, n', v', l', o6, o7, o8, o9, o10⟩ := this
        exact ⟨t11, o1, o2, o3, o4, o5, n', v', l', o6, by omega, by omega, by omega, o10⟩
      (try (simp (disch := first | omega | (simp <;> omega) | fail) only [push_cast, ↓reduceIte, Nat.reduceEqDiff, Nat.reduceAdd, Nat.reduceMul, Nat.reduceSub, Nat.reduceLT, Int.reduceToNat, z2, p6, hlv, reads, List.mem_cons, List.mem_append, List.not_mem_nil, nat_ff, or_self, or_false, false_or, not_false_eq_true]))
      first | refine goC_split (fun hd => ?_) (fun hd => ?_) | refine cnd_split (fun hd => ?_) (fun hd => ?_)
      · (try (simp only [decide_eq_true_eq, decide_eq_false_iff_not, Bool.not_eq_true', Bool.not_eq_false', Bool.and_eq_true, Bool.or_eq_true, Int.not_lt, Int.not_le] at hd)); (try (simp (disch := first | omega | (simp <;> omega) | fail) only [push_cast, ↓reduceIte, Nat.reduceEqDiff, Nat.reduceAdd, Nat.reduceMul, Nat.reduceSub, Nat.reduceLT, Int.reduceToNat]))
        subst hv
        have hpm2 : (bb = b ∨ h.length ≤ bb) = True := by rw [eq_iff_iff]; exact ⟨fun _ => trivial, fun _ => Or.inr (by omega)⟩
        (try (simp (disch := first | omega | (simp <;> omega) | fail) only [push_cast, ↓reduceIte, Nat.reduceEqDiff, Nat.reduceAdd, Nat.reduceMul, Nat.reduceSub, Nat.reduceLT, Int.reduceToNat, p6, p6', hrep, ov0, ov1, ov2, ov3, reads, List.mem_cons, List.mem_append, List.not_mem_nil, nat_ff, or_self, or_false, false_or, not_false_eq_true]))
        repeat' (with_reducible refine And.intro ?_ ?_)
        all_goals
          first
          | (refine (c_spec_l1Cur_pickAny b c (K + 42) h2 (l.length : Int) hA2.2.2.1 (by omega) (by omega)).mono (fun x h4 hx => ?_) (fun b' _ hb' => Or.inl hb')
             obtain ⟨⟨q, rfl, q0, q1⟩, hs⟩ := hx
             have hA4 := hA2.step hs
             have r6 := cells_keep (hs.2.1 b3 (by omega)) p6
             have r6' := fun l' : H => cells_app (l := l') r6
             have r11 := cells_keep (hs.2.1 bb (by omega)) p11
             have l4 := cells_lt r11
             have l5 := cells_lt r6
             (try (simp (disch := first | omega | (simp <;> omega) | fail) only [push_cast, ↓reduceIte, Nat.reduceEqDiff, Nat.reduceAdd, Nat.reduceMul, Nat.reduceSub, Nat.reduceLT, Int.reduceToNat, r6, r6', hrep, ov0, ov1, ov2, ov3, reads, List.mem_cons, List.mem_append, List.not_mem_nil, nat_ff, or_self, or_false, false_or, not_false_eq_true]))
             repeat' (with_reducible refine And.intro ?_ ?_)
             all_goals
               refine (c_spec_l1Cur_among b c (K + 43) (h4 ++ [some (AObj.cells (([-1, 65535, 65536, 40000] : List Int).map (.int .i64)))]) h4.length [-1, 65535, 65536, 40000] hA4.more.2.2.1 (by omega) (by decide) (by decide) (by rw [cells_h0]; rfl) (by omega)).mono (fun x h7 hx => ?_) (fun b' _ hb' => Or.inl hb')
               obtain ⟨⟨mm, rfl, _⟩, hs7⟩ := hx
               obtain ⟨t11, hfin⟩ := fin _ h7 q mm _ hA4.more ⟨hs7.1, hs7.2.1, hs7.2.2.mono (by omega)⟩ (cells_app r6) (cells_app r11)
               have t6 := cells_keep (hs7.2.1 b3 (by omega)) (cells_app r6)
               have hov := set_over2 (vs := l) (i := q.toNat) (x := mm) (by omega)
               have hll : (l.map (AV.int .i64)).length = l.length := by simp
               (try (simp (disch := first | omega | (simp <;> omega) | fail) only [push_cast, ↓reduceIte, Nat.reduceEqDiff, Nat.reduceAdd, Nat.reduceMul, Nat.reduceSub, Nat.reduceLT, Int.reduceToNat, t6, t11, hll, hov, hpm2, reads, List.mem_cons, List.mem_append, List.not_mem_nil, nat_ff, or_self, or_false, false_or, not_false_eq_true]))
               all_goals (try exact hfin))
          | (refine (c_spec_l1Cur_pickAny b c (K + 42) (h2 ++ [some (AObj.cells (([-1, 65535, 65536, 40000] : List Int).map (.int .i64)))]) (l.length : Int) hA2.more.2.2.1 (by omega) (by omega)).mono (fun x h4 hx => ?_) (fun b' _ hb' => Or.inl hb')
             obtain ⟨⟨q, rfl, q0, q1⟩, hs⟩ := hx
             have hA4 := hA2.more.step hs
             have r6 := cells_keep (hs.2.1 b3 (by omega)) (cells_app p6)
             have r6' := fun l' : H => cells_app (l := l') r6
             have r11 := cells_keep (hs.2.1 bb (by omega)) (cells_app p11)
             have rl : h4.cells h2.length = some (([-1, 65535, 65536, 40000] : List Int).map (.int .i64)) := cells_keep (hs.2.1 h2.length (by omega)) (by rw [cells_h0]; rfl)
             have l4 := cells_lt r11
             have l5 := cells_lt r6
             (try (simp (disch := first | omega | (simp <;> omega) | fail) only [push_cast, ↓reduceIte, Nat.reduceEqDiff, Nat.reduceAdd, Nat.reduceMul, Nat.reduceSub, Nat.reduceLT, Int.reduceToNat, r6, r6', reads, List.mem_cons, List.mem_append, List.not_mem_nil, nat_ff, or_self, or_false, false_or, not_false_eq_true]))
             repeat' (with_reducible refine And.intro ?_ ?_)
             all_goals
               refine (c_spec_l1Cur_among b c (K + 43) h4 h2.length [-1, 65535, 65536, 40000] hA4.2.2.1 (by omega) (by decide) (by decide) rl (by omega)).mono (fun x h7 hx => ?_) (fun b' _ hb' => Or.inl hb')
               obtain ⟨⟨mm, rfl, _⟩, hs7⟩ := hx
               obtain ⟨t11, hfin⟩ := fin _ h7 q mm _ hA4 ⟨hs7.1, hs7.2.1, hs7.2.2.mono (by omega)⟩ r6 r11
               have t6 := cells_keep (hs7.2.1 b3 (by omega)) r6
               have hov := set_over2 (vs := l) (i := q.toNat) (x := mm) (by omega)
               have hll : (l.map (AV.int .i64)).length = l.length := by simp
               (try (simp (disch := first | omega | (simp <;> omega) | fail) only [push_cast, ↓reduceIte, Nat.reduceEqDiff, Nat.reduceAdd, Nat.reduceMul, Nat.reduceSub, Nat.reduceLT, Int.reduceToNat, t6, t11, hll, hov, hpm2, reads, List.mem_cons, List.mem_append, List.not_mem_nil, nat_ff, or_self, or_false, false_or, not_false_eq_true]))
               all_goals (try exact hfin))
      · (try (simp only [decide_eq_true_eq, decide_eq_false_iff_not, Bool.not_eq_true', Bool.not_eq_false', Bool.and_eq_true, Bool.or_eq_true, Int.not_lt, Int.not_le] at hd)); (try (simp (disch := first | omega | (simp <;> omega) | fail) only [push_cast, ↓reduceIte, Nat.reduceEqDiff, Nat.reduceAdd, Nat.reduceMul, Nat.reduceSub, Nat.reduceLT, Int.reduceToNat]))
        (try (simp (disch := first | omega | (simp <;> omega) | fail) only [push_cast, ↓reduceIte, Nat.reduceEqDiff, Nat.reduceAdd, Nat.reduceMul, Nat.reduceSub, Nat.reduceLT, Int.reduceToNat, reads, List.mem_cons, List.mem_append, List.not_mem_nil, nat_ff, or_self, or_false, false_or, not_false_eq_true]))
        all_goals (try exact hfin0)
    by_cases z3 : k = 3
    · (try (simp (disch := first | omega | (simp <;> omega) | fail) only [push_cast, ↓reduceIte, Nat.reduceEqDiff, Nat.reduceAdd, Nat.reduceMul, Nat.reduceSub, Nat.reduceLT, Int.reduceToNat, z3, reads, List.mem_cons, List.mem_append, List.not_mem_nil, nat_ff, or_self, or_false, false_or, not_false_eq_true]))
      refine (c_spec_l1Cur_pick b c (K + 42) _ 2 hA2.2.2.1 (by omega) (by omega) (by omega)).mono (fun x h4 hx => ?_) (fun b' _ hb' => Or.inl hb')
      obtain ⟨⟨q, rfl, q0, q1⟩, hs⟩ := hx
      have hA4 := hA2.step hs
      have r6 := cells_keep (hs.2.1 b3 (by omega)) p6
      obtain ⟨nn, hnn⟩ : ∃ nn : Nat, (4096 : Int) - q = (nn : Int) := ⟨((4096 : Int) - q).toNat, by omega⟩
      (try (simp (disch := first | omega | (simp <;> omega) | fail) only [push_cast, ↓reduceIte, Nat.reduceEqDiff, Nat.reduceAdd, Nat.reduceMul, Nat.reduceSub, Nat.reduceLT, Int.reduceToNat, hnn]))
      refine (c_spec_biNew_own nn ((nn + 15) / 16) (by omega) (by omega) _).mono (fun x h5 hx => ?_) (fun _ _ h => h.elim)
      obtain ⟨b5, rfl, t1, ⟨p, rfl⟩, t3⟩ := hx
      have l6 := cells_lt p4
      have l7 := hs.1
      have l8 := cells_lt r6
      have hlen : (wordsN 0 ((nn + 15) / 16)).length = (nn + 15) / 16 := wordsN_len
      have hfin := hA4.store (g2 := h4 ++ p) (n2 := nn) (l2 := wordsN 0 ((nn + 15) / 16)) (bb2 := b5) (N2 := 300) (fun k hk => List.getElem?_append_left (by omega)) (by simp) (by omega) (by omega) (by omega) t3 (by omega) (by omega)
      rw [hlen] at hfin
      have t6 := cells_app (l := p) r6
      (try (simp (disch := first | omega | (simp <;> omega) | fail) only [push_cast, ↓reduceIte, Nat.reduceEqDiff, Nat.reduceAdd, Nat.reduceMul, Nat.reduceSub, Nat.reduceLT, Int.reduceToNat, r6, t6, reads, List.mem_cons, List.mem_append, List.not_mem_nil, nat_ff, or_self, or_false, false_or, not_false_eq_true]))
      all_goals (try exact hfin.monoK (by omega))
    by_cases z4 : k = 4
    · (try (simp (disch := first | omega | (simp <;> omega) | fail) only [push_cast, ↓reduceIte, Nat.reduceEqDiff, Nat.reduceAdd, Nat.reduceMul, Nat.reduceSub, Nat.reduceLT, Int.reduceToNat, z4, reads, List.mem_cons, List.mem_append, List.not_mem_nil, nat_ff, or_self, or_false, false_or, not_false_eq_true]))
      refine (c_spec_l1Cur_pick b c (K + 42) _ 5 hA2.2.2.1 (by omega) (by omega) (by omega)).mono (fun x h4 hx => ?_) (fun b' _ hb' => Or.inl hb')
      obtain ⟨⟨q, rfl, q0, q1⟩, hs⟩ := hx
      have hA4 := hA2.step hs
      have r6 := cells_keep (hs.2.1 b3 (by omega)) p6
      obtain ⟨nn, hnn⟩ : ∃ nn : Nat, (16 : Int) * q = (nn : Int) := ⟨((16 : Int) * q).toNat, by omega⟩
      (try (simp (disch := first | omega | (simp <;> omega) | fail) only [push_cast, ↓reduceIte, Nat.reduceEqDiff, Nat.reduceAdd, Nat.reduceMul, Nat.reduceSub, Nat.reduceLT, Int.reduceToNat, hnn]))
      refine (c_spec_biNew_own nn ((nn + 15) / 16) (by omega) (by omega) _).mono (fun x h5 hx => ?_) (fun _ _ h => h.elim)
      obtain ⟨b5, rfl, t1, ⟨p, rfl⟩, t3⟩ := hx
      have l6 := cells_lt p4
      have l7 := hs.1
      have l8 := cells_lt r6
      have hlen : (wordsN 0 ((nn + 15) / 16)).length = (nn + 15) / 16 := wordsN_len
      have hfin := hA4.store (g2 := h4 ++ p) (n2 := nn) (l2 := wordsN 0 ((nn + 15) / 16)) (bb2 := b5) (N2 := 300) (fun k hk => List.getElem?_append_left (by omega)) (by simp) (by omega) (by omega) (by omega) t3 (by omega) (by omega)
      rw [hlen] at hfin
      have t6 := cells_app (l := p) r6
      (try (simp (disch := first | omega | (simp <;> omega) | fail) only [push_cast, ↓reduceIte, Nat.reduceEqDiff, Nat.reduceAdd, Nat.reduceMul, Nat.reduceSub, Nat.reduceLT, Int.reduceToNat, r6, t6, reads, List.mem_cons, List.mem_append, List.not_mem_nil, nat_ff, or_self, or_false, false_or, not_false_eq_true]))
      all_goals (try exact hfin.monoK (by omega))
    have hfin : AbI h h2 b c (K + 60) b3 300 := by
      obtain ⟨o1, o2, o3, o4, o5, n', v', l', o6, o7, o8, o9, o10⟩ := hA2.monoK (show K + 41 + 1 ≤ K + 60 by omega)
      exact ⟨o1, o2, o3, o4, o5, n', v', l', o6, by omega, by omega, by omega, o10⟩
    (try (simp (disch := first | omega | (simp <;> omega) | fail) only [push_cast, ↓reduceIte, Nat.reduceEqDiff, Nat.reduceAdd, Nat.reduceMul, Nat.reduceSub, Nat.reduceLT, Int.reduceToNat, z0, z1, z2, z3, z4, reads, List.mem_cons, List.mem_append, List.not_mem_nil, nat_ff, or_self, or_false, false_or, not_false_eq_true]))
    all_goals (try exact hfin)
  rintro e g ⟨hp, hA3⟩
  refine K_pins hp fun e => ?_
  obtain ⟨p1, p2, p3, p4, p5, n, v, l, p6, p7, p8, p9, bb, rfl, p11, p12, p13⟩ := hA3
  have h0 := cells_lt p4
  have hw := cells_wr2 h0 (cs := [AV.int .i64 n, .sl bb 0 1 l.length l.length])
  have hpm : (h.length ≤ h.length) = True := by simp
  have hwk : ∀ k, k ≠ h.length → (wr g h.length [AV.int .i64 n, .sl bb 0 1 l.length l.length])[k]? = g[k]? := fun k hk => by
    unfold wr
    rw [List.getElem?_set_ne (Ne.symm hk)]
  have f1 : ∀ k, k < h.length → k ≠ b → (wr g h.length [AV.int .i64 n, .sl bb 0 1 l.length l.length])[k]? = h[k]? := fun k hk hn => (hwk k (by omega)).trans (p5 k hk hn)
  have f2 := p3.frame (hwk b (by omega))
  have f3 := cells_keep (hwk bb (by omega)) p11
  have f4 : h.length ≤ (wr g h.length [AV.int .i64 n, .sl bb 0 1 l.length l.length]).length := by simp [wr]; omega
  (try (simp (disch := first | omega | (simp <;> omega) | fail) only [push_cast, ↓reduceIte, Nat.reduceEqDiff, Nat.reduceAdd, Nat.reduceMul, Nat.reduceSub, Nat.reduceLT, Int.reduceToNat, p4, p6, hpm, hw]))
  all_goals (try exact ⟨n, l, bb, by omega, rfl, p9, by omega, f4, f1, f2, f3⟩)
  all_goals (try exact ⟨n, l, bb, by omega, rfl, p9, by omega, f1, f2, f3⟩)
theorem c_spec_l1Cur_anyBits (b : Nat) (c : Option (List UInt8)) (K : Nat) (h : H) (hc : CurI h b c K) (hK : K ≤ 10000000) :
    Call Tryz.prog 77 [.adr b 0] h (fun b' => b' = b) (fun x h' => ∃ (n : Int) (l : List Int) (bb : Nat), x = .agg [.int .i64 n, .sl bb 0 1 l.length l.length] ∧ l.length ≤ 300 ∧ h.length ≤ bb ∧ h.length ≤ h'.length ∧ (∀ k, k < h.length → k ≠ b → h'[k]? = h[k]?) ∧ CurI h' b c (K + 60) ∧ h'.cells bb = some (l.map (.int .i64))) :=
  (c_spec_l1Cur_anyBits_x b c K h hc hK).mono (fun _ _ ⟨n, l, bb, _, hx⟩ => ⟨n, l, bb, hx⟩) fun _ _ h => h

theorem lastOk_ofT {B n m : Nat} (hm : (((n : Int) + 15) / 16) = (m : Int)) (hB : B < 2 ^ n) : lastOk n (wordsN B m) = true := by
  unfold lastOk
  rw [Bool.or_eq_true, decide_eq_true_eq, decide_eq_true_eq]
  by_cases hz : (n : Int) % 16 = 0
  · exact .inl hz
  · right
    have hm1 : 1 ≤ m := by omega
    rw [wordsN_len, wordsN_get (by omega)]
    have hr : min ((n : Int) % 16).toNat IntKind.i64.bits = n % 16 := by
      simp [IntKind.bits]
      omega
    rw [hr]
    have hlt : wordN B (m - 1) < 2 ^ (n % 16) := by
      unfold wordN
      refine Nat.lt_of_le_of_lt (Nat.mod_le _ _) ?_
      rw [Nat.shiftRight_eq_div_pow, Nat.div_lt_iff_lt_mul (Nat.two_pow_pos _), ← Nat.pow_add]
      rwa [show n % 16 + 16 * (m - 1) = n by omega]
    have h2 : ((2 : Int) ^ (n % 16)) = ((2 ^ (n % 16) : Nat) : Int) := by simp
    rw [h2, ← Int.ofNat_fdiv, Nat.div_eq_of_lt hlt]
    rfl
theorem okBt_ofT {B n m : Nat} (hm : (((n : Int) + 15) / 16) = (m : Int)) (hB : B < 2 ^ n) (hn : n ≤ 4096) : okBt ⟨n, some (wordsN B m)⟩ = true := by
  have hl : lI (some (wordsN B m)) = wordsN B m := rfl
  have hw : okWords (wordsN B m) = true := by
    unfold okWords
    rw [List.all_eq_true]
    intro w hw
    have := wordsN_all w hw
    simp [this.1, this.2]
  simp only [okBt, hl, wordsN_len, hw, lastOk_ofT hm hB, Bool.and_eq_true, decide_eq_true_eq, and_true] <;> omega
theorem nodup_le : ∀ {l m : List Str}, l.Nodup → (∀ x ∈ l, x ∈ m) → l.length ≤ m.length
  | [], m, _, _ => by simp
  | x :: l, m, hn, hs => by
    rw [List.nodup_cons] at hn
    have hx : x ∈ m := hs x (by simp)
    have h1 := nodup_le (l := l) (m := m.erase x) hn.2 fun y hy => by
      have hne : y ≠ x := fun h => hn.1 (h ▸ hy)
      exact (List.mem_erase_of_ne hne).2 (hs y (List.mem_cons_of_mem _ hy))
    have h2 := List.length_erase_of_mem hx
    have h3 := List.length_pos_of_mem hx
    rw [List.length_cons]
    omega
theorem okBt_md {l : List Bool} (hl : l.length ≤ 4096) : okBt (mdB l) = true := by
  refine okBt_ofT (n := l.length) (B := bitN l l.length) (m := (l.length + 15) / 16) ?_ bitN_lt hl
  omega
theorem tK_ok {K : List Str} (hK : okKeys K = true) : TrI (tK K) K := by
  have htr := nodesK_tri hK
  have hN := nodesK_cap (okKeys_all hK).2.2
  have hs := htr.shape
  obtain ⟨R, hR, _, _⟩ := htr.head
  have hp : 0 < (nodesK K).length := by rw [hR]; simp
  have hl : (labL (nodesK K)).length = (nodesK K).length - 1 := by simp [labL]
  have he : (endL K (nodesK K)).length = (nodesK K).length := by simp [endL]
  refine ⟨?_, hK, sameT_iff.2 ⟨sameB_iff.2 ⟨rfl, rfl⟩, sameB_iff.2 ⟨rfl, rfl⟩, rfl⟩⟩
  unfold okT0 tK
  rw [okBt_md (by omega), okBt_md (by omega)]
  have e1 : (mdB (shapeL (nodesK K))).size = ((shapeL (nodesK K)).length : Int) := rfl
  have e2 : (mdB (endL K (nodesK K))).size = ((endL K (nodesK K)).length : Int) := rfl
  simp only [Bool.and_self, Bool.true_and, Bool.and_eq_true, decide_eq_true_eq]
  rw [e1, e2, he]
  omega
theorem keep_one {K : List Str} (hK : okKeys K = true) {i : Nat} (hi : i < K.length) : okKeys (K.take i ++ K.drop (i + 1)) = true ∧ K.getD i [] ∉ K.take i ++ K.drop (i + 1) ∧ ∀ s ∈ K.take i ++ K.drop (i + 1), s ∈ K := by
  obtain ⟨h1, h2, h3⟩ := okKeys_all hK
  have e : K = K.take i ++ K[i] :: K.drop (i + 1) := by
    conv => lhs; rw [← List.take_append_drop i K, List.drop_eq_getElem_cons hi]
  have hg : K.getD i [] = K[i] := by simp [hi]
  have hsub : ∀ s ∈ K.take i ++ K.drop (i + 1), s ∈ K := fun s hs => by
    rcases List.mem_append.1 hs with h | h
    · exact List.mem_of_mem_take h
    · exact List.mem_of_mem_drop h
  have hp := h2
  rw [e, List.pairwise_append, List.pairwise_cons] at hp
  refine ⟨okKeys_of (fun s hs => h1 s (hsub s hs)) ?_ ?_, ?_, hsub⟩
  · rw [List.pairwise_append]
    exact ⟨hp.1, hp.2.1.2, fun a ha b hb => hp.2.2 a ha b (List.mem_cons_of_mem _ hb)⟩
  · rw [List.length_append, List.length_take, List.length_drop]
    omega
  · rw [hg]
    intro hm
    rcases List.mem_append.1 hm with h | h
    · have := hp.2.2 _ h K[i] (.head _)
      unfold slt at this
      rw [bl_irr] at this
      cases this
    · have := hp.2.1.1 _ h
      unfold slt at this
      rw [bl_irr] at this
      cases this
theorem slt_irr : ∀ a, ¬ slt a a := fun a h => by
  unfold slt at h
  rw [bl_irr] at h
  cases h
theorem fewer_nodes {K R : List Str} (hK : okKeys K = true) (hR : okKeys R = true) (hsub : ∀ s ∈ R, s ∈ K) : (nodesK R).length ≤ (nodesK K).length := by
  refine nodup_le (pw_nodup nlt_irr (nodesK_ok hR).1) fun x hx => ?_
  rcases ((nodesK_ok hR).2 x).1 hx with h | ⟨s, hs, h⟩
  · exact ((nodesK_ok hK).2 x).2 (.inl h)
  · exact ((nodesK_ok hK).2 x).2 (.inr ⟨s, hsub s hs, h⟩)
theorem all_once {K : List Str} (hK : okKeys K = true) {j : Nat} (hj : j < K.length) : ((j : Nat) : Int) ∈ K.map (fndI ((nodesK K).filter fun x => decide (x ∈ K))) := by
  have hn : ((nodesK K).filter fun x => decide (x ∈ K)).Pairwise nlt := (nodesK_ok hK).1.filter _
  have hm : ∀ x, x ∈ (nodesK K).filter (fun x => decide (x ∈ K)) ↔ x ∈ K := fun x => ends_mem hK
  have hl : K.length ≤ ((nodesK K).filter fun x => decide (x ∈ K)).length := nodup_le (pw_nodup slt_irr (okKeys_all hK).2.1) fun x hx => (hm x).2 hx
  generalize (nodesK K).filter (fun x => decide (x ∈ K)) = M at *
  have hj2 : j < M.length := by omega
  refine List.mem_map.2 ⟨M[j], (hm _).1 (List.getElem_mem hj2), ?_⟩
  refine idx_at hj2 (by simp [hj2]) fun h => ?_
  obtain ⟨q, hq, he⟩ := List.mem_iff_getElem.1 h
  rw [List.length_take] at hq
  rw [List.getElem_take] at he
  have := List.pairwise_iff_getElem.1 hn q j (by omega) hj2 (by omega)
  rw [he] at this
  exact nlt_irr _ this
theorem nodes_none : nodesK ([] : List Str) = [[]] := by
  have : ∀ n, nodesTo ([] : List Str) n = [[]] := fun n => by
    induction n with
    | zero => rfl
    | succ n ih => exact ih
  exact this 12

def box0 : List AV := [.int .i64 0, .nils, .int .i64 0, .nils, .str []]
/-- A trie that is drawn, in its box. -/
def TrB (h g : H) (b : Nat) (c : Option (List UInt8)) (K b4 : Nat) (n1 : Int) (y1 : AV) (n2 : Int) (y2 : AV) (lab : Str) : Prop :=
  b < h.length ∧ h.length + 1 ≤ b4 ∧ CurF h g b c K ∧ g.cells h.length = some box0 ∧ g.cells b4 = some [.int .i64 n1, y1, .int .i64 n2, y2, .str lab] ∧
  ∃ o1 o2 F1 F2, Ow g [y1] [eI o1] F1 ∧ Ow g [y2] [eI o2] F2 ∧ (∀ k, F1 k → h.length + 1 ≤ k ∧ k ≠ b4 ∧ k < g.length) ∧ ∀ k, F2 k → h.length + 1 ≤ k ∧ k ≠ b4 ∧ k < g.length
theorem TrB.at_ {h g : H} {b K b4 : Nat} {c : Option (List UInt8)} {n1 n2 : Int} {y1 y2 : AV} {lab : Str} (hp : TrB h g b c K b4 n1 y1 n2 y2 lab) : g.cells b4 = some [.int .i64 n1, y1, .int .i64 n2, y2, .str lab] := hp.2.2.2.2.1
theorem TrB.cur {h g : H} {b K b4 : Nat} {c : Option (List UInt8)} {n1 n2 : Int} {y1 y2 : AV} {lab : Str} (hp : TrB h g b c K b4 n1 y1 n2 y2 lab) : CurI g b c K := hp.2.2.1.2.2
theorem TrB.ones {h g : H} {b K b4 : Nat} {c : Option (List UInt8)} {n1 n2 : Int} {y1 y2 : AV} {lab : Str} (hp : TrB h g b c K b4 n1 y1 n2 y2 lab) : one y1 = true ∧ cellsOf y1 = [y1] ∧ one y2 = true ∧ cellsOf y2 = [y2] := by
  obtain ⟨_, _, _, _, _, o1, o2, F1, F2, h1, h2, _, _⟩ := hp
  exact ⟨(ow_eI h1).1, (ow_eI h1).2, (ow_eI h2).1, (ow_eI h2).2⟩
theorem TrB.keep {h g g2 : H} {b K K' b4 : Nat} {c : Option (List UInt8)} {n1 n2 : Int} {y1 y2 : AV} {lab : Str} (hp : TrB h g b c K b4 n1 y1 n2 y2 lab) (hF : CurF g g2 b c K') : TrB h g2 b c K' b4 n1 y1 n2 y2 lab := by
  obtain ⟨p1, p2, p3, p4, p5, o1, o2, F1, F2, q1, q2, q3, q4⟩ := hp
  have hl := hF.1
  exact ⟨p1, p2, p3.trans hF, hF.cells p4 (by omega), hF.cells p5 (by omega), o1, o2, F1, F2, q1.frame fun k hk => hF.2.1 k (q3 k hk).2.2 (by have := (q3 k hk).1; omega), q2.frame fun k hk => hF.2.1 k (q4 k hk).2.2 (by have := (q4 k hk).1; omega), fun k hk => ⟨(q3 k hk).1, (q3 k hk).2.1, by have := (q3 k hk).2.2; omega⟩, fun k hk => ⟨(q4 k hk).1, (q4 k hk).2.1, by have := (q4 k hk).2.2; omega⟩⟩
theorem TrB.mono {h g : H} {b K K' b4 : Nat} {c : Option (List UInt8)} {n1 n2 : Int} {y1 y2 : AV} {lab : Str} (hp : TrB h g b c K b4 n1 y1 n2 y2 lab) (hk : K ≤ K') : TrB h g b c K' b4 n1 y1 n2 y2 lab := hp.keep ((CurF.refl hp.cur).mono hk)
/-- Its box, put over. -/
theorem TrB.put {h g : H} {b K b4 : Nat} {c : Option (List UInt8)} {n1 n2 m1 m2 : Int} {y1 y2 z1 z2 : AV} {lab lab' : Str} {o1 o2 : Option (List Int)} {F1 F2 : Nat → Prop} (hp : TrB h g b c K b4 n1 y1 n2 y2 lab) 
    (h1 : Ow g [z1] [eI o1] F1) (h2 : Ow g [z2] [eI o2] F2) (hF1 : ∀ k, F1 k → h.length + 1 ≤ k ∧ k ≠ b4 ∧ k < g.length) (hF2 : ∀ k, F2 k → h.length + 1 ≤ k ∧ k ≠ b4 ∧ k < g.length) : TrB h (wr g b4 [.int .i64 m1, z1, .int .i64 m2, z2, .str lab']) b c K b4 m1 z1 m2 z2 lab' := by
  obtain ⟨p1, p2, p3, p4, p5, _⟩ := hp
  have hw : ∀ k, k ≠ b4 → (wr g b4 [.int .i64 m1, z1, .int .i64 m2, z2, .str lab'])[k]? = g[k]? := fun k hk => by
    unfold wr
    rw [List.getElem?_set_ne (Ne.symm hk)]
  have hlw : (wr g b4 [.int .i64 m1, z1, .int .i64 m2, z2, .str lab']).length = g.length := by simp [wr]
  exact ⟨p1, p2, ⟨by rw [hlw]; exact p3.1, fun k hk hn => (hw k (by omega)).trans (p3.2.1 k hk hn), p3.2.2.frame (hw b (by omega))⟩, cells_keep (hw _ (by omega)) p4, cells_wr2 (cells_lt p5), o1, o2, F1, F2, h1.frame fun k hk => hw k (hF1 k hk).2.1, h2.frame fun k hk => hw k (hF2 k hk).2.1, fun k hk => by rw [hlw]; exact hF1 k hk, fun k hk => by rw [hlw]; exact hF2 k hk⟩
theorem ow_bools {h : H} {x : AV} {N : List Bool} {G : Nat → Prop} (ho : Ow h [x] [eO (some N)] G) : ∃ b, x = .sl b 0 1 N.length N.length ∧ G b ∧ h.cells b = some (N.map .bool) := by
  obtain ⟨b, cs, F, rfl, hc, hl, hb, hF, hin, _⟩ := Ow.open_ (show Ow h [x] [.ro 1 _ _] G from ho)
  exact ⟨b, rfl, hb, by rw [hc, ow_atoms_eqT hin fun t ht => by obtain ⟨q, _, rfl⟩ := List.mem_map.1 ht; rfl]⟩
/-- What is seen of it, once it is in the result's box. -/
theorem TrB.fin {h g : H} {b K b4 : Nat} {c : Option (List UInt8)} {n1 n2 : Int} {y1 y2 : AV} {lab : Str} (hp : TrB h g b c K b4 n1 y1 n2 y2 lab) (cs : List AV) : ∃ t, Vw (wr g h.length cs) h.length (.agg [.int .i64 n1, y1, .int .i64 n2, y2, .str lab]) t ∧ (∃ t' : Tr, t = eTr t' ∧ t'.en.size = n2) ∧ CurF h (wr g h.length cs) b c K := by
  obtain ⟨p1, p2, p3, p4, p5, o1, o2, F1, F2, q1, q2, q3, q4⟩ := hp
  have hw : ∀ k, k ≠ h.length → (wr g h.length cs)[k]? = g[k]? := fun k hk => by
    unfold wr
    rw [List.getElem?_set_ne (Ne.symm hk)]
  have v1 := (q1.frame (h' := wr g h.length cs) fun k hk => hw k (by have := (q3 k hk).1; omega)).vw1 (n0 := h.length) fun k hk => by have := (q3 k hk).1; omega
  have v2 := (q2.frame (h' := wr g h.length cs) fun k hk => hw k (by have := (q4 k hk).1; omega)).vw1 (n0 := h.length) fun k hk => by have := (q4 k hk).1; omega
  refine ⟨eTr ⟨⟨n1, o1⟩, ⟨n2, o2⟩, lab⟩, .agg rfl fun j y t hy ht => ?_, ⟨_, rfl, rfl⟩, by simpa [wr] using p3.1, fun k hk hn => (hw k (by omega)).trans (p3.2.1 k hk hn), p3.2.2.frame (hw b (by omega))⟩
  rcases j with _ | _ | _ | _ | _ | j
  · simp [cTr] at hy ht
    subst hy ht
    exact .free free_int
  · simp [cTr] at hy ht
    subst hy ht
    exact v1
  · simp [cTr] at hy ht
    subst hy ht
    exact .free free_int
  · simp [cTr] at hy ht
    subst hy ht
    exact v2
  · simp [cTr] at hy ht
    subst hy ht
    exact .free free_str
  · simp at hy

/-- A cut that may also return. -/
def CR (R : Env → H → Prop) (Q : Ex → Env → H → Prop) : Ex → Env → H → Prop
  | .normal => R
  | .exit _ => fun _ _ => False
  | .ret => Q .ret
theorem CR_n {R : Env → H → Prop} {Q : Ex → Env → H → Prop} {e : Env} {h : H} : CR R Q .normal e h = R e h := (rfl)
theorem CR_r {R : Env → H → Prop} {Q : Ex → Env → H → Prop} {e : Env} {h : H} : CR R Q .ret e h = Q .ret e h := (rfl)
theorem T_cutR {P : Program} {pm : Nat → Prop} {c : RCode} {Q : Ex → Env → H → Prop} {e : Env} {h : H} (R : Env → H → Prop) (h1 : T P pm c (K P pm [] (CR R Q)) e h) (h2 : ∀ e h, R e h → Q .normal e h) : T P pm c Q e h := by
  refine T_mono ?_ h1
  intro x e h hq
  cases x with
  | normal => exact h2 e h hq
  | exit i => exact hq.elim
  | ret => exact hq
--eng CR_n CR_r

attribute [push_cast] CR_n CR_r
set_option maxHeartbeats 4000000 in
theorem c_spec_l1Cur_trie (b : Nat) (c : Option (List UInt8)) (K : Nat) (h : H) (hcu : CurI h b c K) (hK : K ≤ 100000) :
    Call Tryz.prog 33 [.adr b 0] h (fun b' => b' = b) (fun x g => (∃ t : Tr, x = eTr t ∧ t.en.size ≤ 5300) ∧ CurF h g b c (K + 900)) := by
  refine Call.cur hcu.lt ?_
  refine enter (by kernel_rfl) e33 (by kernel_rfl) rfl fun hok => ?_
  simp only [r33, initEnv_1]
  have hbl := hcu.lt
  generalize hD1 : RCode.seq (.reg (⟨some 11, .v (.mov (.t 0)), none⟩ :: _)) _ = D1
  generalize hB0 : RCode.block 0 _ = B0
  (try (simp (disch := first | omega | (simp <;> omega) | fail) only [push_cast, ↓reduceIte, Nat.reduceEqDiff, Nat.reduceAdd, Nat.reduceMul, Nat.reduceSub, Nat.reduceLT, Int.reduceToNat]))
  refine (c_spec_l1Cur_keys_x b c K (h ++ [some (.cells box0)]) 8 (hcu.frame (List.getElem?_append_left hbl)) (by omega) (by omega) (by omega)).mono (fun x g0 hx => ?_) (fun b' _ hb' => Or.inl hb')
  obtain ⟨l, hG, hl1, hl2, hl3⟩ := hx
  (try (simp (disch := first | omega | (simp <;> omega) | fail) only [push_cast, ↓reduceIte, Nat.reduceEqDiff, Nat.reduceAdd, Nat.reduceMul, Nat.reduceSub, Nat.reduceLT, Int.reduceToNat]))
  refine T_cut (fun e g => ∃ v l, Pins e [(0, .adr b 0), (2, .adr h.length 0), (3, v)] ∧ GrD AV.str (h ++ [some (.cells box0)]) g b c (K + 400) v l ∧ l.Pairwise slt ∧ (∀ s ∈ l, okKey s = true) ∧ l.length ≤ 40) ?_ ?_
  · rw [← hD1]
    (try (simp (disch := first | omega | (simp <;> omega) | fail) only [push_cast, ↓reduceIte, Nat.reduceEqDiff, Nat.reduceAdd, Nat.reduceMul, Nat.reduceSub, Nat.reduceLT, Int.reduceToNat]))
    refine (c_spec_l1Cur_one b c _ g0 20 hG.1.2.2 (by omega) (by omega) (by omega)).mono (fun y g1 hy => ?_) (fun b' _ hb' => Or.inl hb')
    obtain ⟨⟨tt, rfl⟩, hs1⟩ := hy
    have hG1 := (hG.step hs1.f).mono (K' := K + 400) (by omega)
    cases tt
    · (try (simp (disch := first | omega | (simp <;> omega) | fail) only [push_cast, ↓reduceIte, Nat.reduceEqDiff, Nat.reduceAdd, Nat.reduceMul, Nat.reduceSub, Nat.reduceLT, Int.reduceToNat]))
      all_goals (try exact ⟨_, _, rfl, hG1, hl2, hl3, by omega⟩)
      done
    · (try (simp (disch := first | omega | (simp <;> omega) | fail) only [push_cast, ↓reduceIte, Nat.reduceEqDiff, Nat.reduceAdd, Nat.reduceMul, Nat.reduceSub, Nat.reduceLT, Int.reduceToNat]))
      refine (c_spec_l1Cur_many_x b c _ g1 40 hG1.1.2.2 (by omega)).mono (fun y g2 hy => ?_) (fun b' _ hb' => Or.inl hb')
      obtain ⟨l2, ⟨hF2, hbl2, B2, hS2, hB2⟩, m1, m2, m3⟩ := hy
      have hG2 : GrD AV.str (h ++ [some (.cells box0)]) g2 b c (K + 400) y l2 := ⟨hG1.1.trans hF2, hG1.2.1, B2, hS2, fun k hk => Nat.le_trans hG1.1.1 (hB2 k hk)⟩
      (try (simp (disch := first | omega | (simp <;> omega) | fail) only [push_cast, ↓reduceIte, Nat.reduceEqDiff, Nat.reduceAdd, Nat.reduceMul, Nat.reduceSub, Nat.reduceLT, Int.reduceToNat]))
      all_goals (try exact ⟨_, _, rfl, hG2, m2, m3, by omega⟩)
      done
  · rintro e g ⟨v, l, hp, ⟨hF, _, B, hS, hB⟩, hl2, hl3, hl4⟩
    refine K_pins hp fun e => ?_
    have hKo : okKeys l = true := okKeys_of hl3 hl2 hl4
    have hNl := nodesK_cap hl4
    have htr := nodesK_tri hKo
    have hsl := htr.shape
    have hel : (endL l (nodesK l)).length = (nodesK l).length := by simp [endL]
    have hll : (labL (nodesK l)).length ≤ 2000 := by
      have : (labL (nodesK l)).length = (nodesK l).length - 1 := by simp [labL]
      omega
    have hNp : 0 < (nodesK l).length := by
      obtain ⟨R, hR, _⟩ := htr.head
      rw [hR]
      simp
    obtain ⟨o4, w4, l4⟩ := hS.vwS0 (n0 := 0) fun _ _ => Nat.zero_le _
    have ht := c_spec_trOf_o o4 (by rw [l4]; exact hKo)
    rw [l4] at ht
    have htk : tK l = ⟨mdB (shapeL (nodesK l)), mdB (endL l (nodesK l)), labL (nodesK l)⟩ := rfl
    generalize labL (nodesK l) = lab at *
    generalize shapeL (nodesK l) = shL at *
    generalize endL l (nodesK l) = enL at *
    rw [htk] at ht
    clear htk
    have hboxg : g.cells h.length = some box0 := hF.cells (k := h.length) (by rw [cells_h0]; rfl) (by omega)
    have hlg := hF.1
    simp only [List.length_append, List.length_cons, List.length_nil] at hlg
    (try (simp (disch := first | omega | (simp <;> omega) | fail) only [push_cast, ↓reduceIte, Nat.reduceEqDiff, Nat.reduceAdd, Nat.reduceMul, Nat.reduceSub, Nat.reduceLT, Int.reduceToNat]))
    refine ht.goL (.cons w4 .nil) fun x t g1 hR hx how => ?_
    subst hR
    obtain ⟨y1, y2, F1, F2, rfl, f1, f2, u1, u2, _⟩ := ow_trE how
    obtain ⟨p1, p2⟩ := ow_eI f1
    obtain ⟨p3, p4⟩ := ow_eI f2
    have hxl := hx.len
    have hFx : CurF g g1 b c (K + 400) := ⟨hx.len, fun k hk _ => hx.at_ hk, hF.2.2.frame (hx.at_ hF.2.2.lt)⟩
    have hFh : CurF h (g1 ++ [some (.cells [.int .i64 (mdB shL).size, y1, .int .i64 (mdB enL).size, y2, .str lab])]) b c (K + 400) := by
      have h0 : CurF h (h ++ [some (.cells box0)]) b c K := (CurF.refl hcu).more
      exact ((h0.trans hF).trans hFx).more
    have hA : TrB h (g1 ++ [some (.cells [.int .i64 (mdB shL).size, y1, .int .i64 (mdB enL).size, y2, .str lab])]) b c (K + 400) g1.length (mdB shL).size y1 (mdB enL).size y2 lab :=
      ⟨hbl, by omega, hFh, cells_app (hx.cells hboxg), by rw [cells_h0]; rfl, _, _, F1, F2, f1.frame fun k hk => List.getElem?_append_left (u1 k hk).2, f2.frame fun k hk => List.getElem?_append_left (u2 k hk).1.2, fun k hk => by have := u1 k hk; exact ⟨by have := this.1; omega, by have := this.2; omega, by have := this.2; simp; omega⟩, fun k hk => by have := (u2 k hk).1; exact ⟨by have := this.1; omega, by have := this.2; omega, by have := this.2; simp; omega⟩⟩
    have hb4 : h.length + 1 ≤ g1.length := hA.2.1
    have hv1 : ∀ (g' : H) K', CurF (g1 ++ [some (.cells [.int .i64 (mdB shL).size, y1, .int .i64 (mdB enL).size, y2, .str lab])]) g' b c K' → Vw g' 0 (.agg [.int .i64 (mdB shL).size, y1]) (eB (mdB shL)) := fun g' K' hF' => (Ow.aggOf (ts := cB (mdB shL)) (.atom rfl (f1.frame fun k hk => (hF'.2.1 k (by have := (u1 k hk).2; simp; omega) (by have := (u1 k hk).1; omega)).trans (List.getElem?_append_left (u1 k hk).2)))).vw0
    have hv2 : ∀ (g' : H) K', CurF (g1 ++ [some (.cells [.int .i64 (mdB shL).size, y1, .int .i64 (mdB enL).size, y2, .str lab])]) g' b c K' → Vw g' 0 (.agg [.int .i64 (mdB enL).size, y2]) (eB (mdB enL)) := fun g' K' hF' => (Ow.aggOf (ts := cB (mdB enL)) (.atom rfl (f2.frame fun k hk => (hF'.2.1 k (by have := (u2 k hk).1.2; simp; omega) (by have := (u2 k hk).1.1; omega)).trans (List.getElem?_append_left (u2 k hk).1.2)))).vw0
    clear f1 f2 u1 u2 how hx hFx hFh hboxg hS hB hF w4 ht
    (try (simp (disch := first | omega | (simp <;> omega) | fail) only [push_cast, ↓reduceIte, Nat.reduceEqDiff, Nat.reduceAdd, Nat.reduceMul, Nat.reduceSub, Nat.reduceLT, Int.reduceToNat, p1, p2, p3, p4]))
    generalize hG0 : g1 ++ [some (AObj.cells [AV.int IntKind.i64 (mdB shL).size, y1, AV.int IntKind.i64 (mdB enL).size, y2, AV.str lab])] = G0 at *
    generalize g1.length = b4 at *
    refine (c_spec_l1Cur_pick b c _ G0 14 hA.cur (by omega) (by omega) (by omega)).mono (fun y g2 hy => ?_) (fun b' _ hb' => Or.inl hb')
    obtain ⟨⟨m, rfl, m0, m1⟩, hs2⟩ := hy
    have hA2 := hA.keep hs2.f
    (try (simp (disch := first | omega | (simp <;> omega) | fail) only [push_cast, ↓reduceIte, Nat.reduceEqDiff, Nat.reduceAdd, Nat.reduceMul, Nat.reduceSub, Nat.reduceLT, Int.reduceToNat]))
    refine T_cut (fun e g => ∃ n1 z1 n2 z2 lab', Pins e [(2, .adr h.length 0), (4, .adr b4 0)] ∧ TrB h g b c (K + 700) b4 n1 z1 n2 z2 lab' ∧ n2 ≤ 5300) ?_ ?_
    · rw [← hB0]
      have hez : (mdB enL).size = (enL.length : Int) := rfl
      have at2 := hA2.at_
      have hpm4 : (h.length ≤ b4) = True := eq_true (by omega)
      by_cases z0 : m = 0
      · (try (simp (disch := first | omega | (simp <;> omega) | fail) only [push_cast, ↓reduceIte, Nat.reduceEqDiff, Nat.reduceAdd, Nat.reduceMul, Nat.reduceSub, Nat.reduceLT, Int.reduceToNat, z0, at2, p1, p2, p3, p4]))
        refine (c_spec_biList_o (mdB shL) (okBt_md (by omega))).goL (.cons (hv1 g2 _ hs2.f) .nil) fun z t' g3 hR hx3 how3 => ?_
        obtain ⟨oz, rfl, hz⟩ := hR
        rw [btL_md] at hz
        have hxl3 := hx3.len
        have hF3 : CurF g2 g3 b c (K + 401) := ⟨hx3.len, fun k hk _ => hx3.at_ hk, hA2.cur.frame (hx3.at_ hA2.cur.lt)⟩
        have hA3 := hA2.keep hF3
        cases oz with
        | none =>
          have hz' : [] = shL := hz
          have : shL.length = 0 := by rw [← hz']; rfl
          omega
        | some L0 =>
          have hz' : L0 = shL := hz
          subst hz'
          obtain ⟨bz, rfl, hbz, hcz⟩ := ow_bools how3
          (try (simp (disch := first | omega | (simp <;> omega) | fail) only [push_cast, ↓reduceIte, Nat.reduceEqDiff, Nat.reduceAdd, Nat.reduceMul, Nat.reduceSub, Nat.reduceLT, Int.reduceToNat, p1, p2, p3, p4]))
          refine (c_spec_l1Cur_pickA b c _ g3 L0.length hA3.cur (by omega) (by omega)).mono (fun y g4 hy => ?_) (fun b' _ hb' => Or.inl hb')
          obtain ⟨⟨mp, rfl, mp0, _, mp1⟩, hF4⟩ := hy
          obtain ⟨p, rfl⟩ : ∃ p : Nat, mp = (p : Int) := ⟨mp.toNat, by omega⟩
          have hp1 : p < L0.length := by have := mp1 (by omega); omega
          have hbz1 := hbz.1
          have hcz4 : g4.cells bz = some (L0.map .bool) := hF4.cells hcz (by have := hA2.cur.lt; omega)
          have hl4 := hF4.1
          have hiaz : iaddrA 1 (.sl bz 0 1 L0.length L0.length) (.int .i64 (p : Int)) = some (.adr bz p) := by
            rw [iaddrA_sl (by omega) (by omega)]
            simp
          have hgz : (L0.map AV.bool)[p]? = some (.bool (L0.getD p false)) := by simp [hp1]
          have hnz : g2.length ≤ bz := hbz1
          have hb2 := hA2.cur.lt
          have hset : over (L0.map AV.bool) p [.bool (!(L0.getD p false))] = (L0.set p (!(L0.getD p false))).map .bool := by rw [over_set (by simp; exact hp1), List.map_set]
          obtain ⟨L', hL'⟩ : ∃ L', L' = L0.set p (!(L0.getD p false)) := ⟨_, rfl⟩
          have hLl : L'.length = L0.length := by rw [hL']; simp
          have hlm : (L0.map AV.bool).length = L0.length := by simp
          have hpmz : (h.length ≤ bz) = True := eq_true (by have := hA2.2.2.1.1; omega)
          (try (simp (disch := first | omega | (simp <;> omega) | fail) only [push_cast, ↓reduceIte, Nat.reduceEqDiff, Nat.reduceAdd, Nat.reduceMul, Nat.reduceSub, Nat.reduceLT, Int.reduceToNat, hiaz, hcz4, hgz, hlm, hpmz, hset, ← hL']))
          have hwz : ∀ k, k ≠ bz → (wr g4 bz (L'.map .bool))[k]? = g4[k]? := fun k hk => by
            unfold wr
            rw [List.getElem?_set_ne (Ne.symm hk)]
          have hF5 : CurF g2 (wr g4 bz (L'.map .bool)) b c (K + 403) := ⟨by simp [wr]; omega, fun k hk hn => (hwz k (by omega)).trans ((hF4.2.1 k (by omega) hn).trans (hF3.2.1 k hk hn)), (hF4.2.2.mono (by omega)).frame (hwz b (by omega))⟩
          have hA5 := hA2.keep hF5
          have hcz5 : H.cells (wr g4 bz (L'.map .bool)) bz = some (L'.map .bool) := cells_wr2 (cells_lt hcz4)
          have hbs := biSome_o (some L') (by show L'.length ≤ 5000; omega)
          have hvz : Vw (wr g4 bz (L'.map .bool)) 0 (.sl bz 0 1 L0.length L0.length) (eO (some L')) := by
            rw [← hLl]
            exact vw_all (Nat.zero_le _) hcz5 (by simp) (one_map fun _ => rfl) (free_map_ fun _ => free_bool)
          refine hbs.goL (.cons hvz .nil) fun x t' g6 hR hx6 how6 => ?_
          subst hR
          obtain ⟨wz, Fz, rfl, k1, k2, k3, k4, _⟩ := ow_bt how6
          have hF6 : CurF (wr g4 bz (L'.map .bool)) g6 b c (K + 403) := ⟨hx6.len, fun k hk _ => hx6.at_ hk, hA5.cur.frame (hx6.at_ hA5.cur.lt)⟩
          have hA6 := hA5.keep hF6
          have at6 := hA6.at_
          obtain ⟨_, r2, r3, r4, r5, o1', o2', F1', F2', q1, q2, q3, q4⟩ := id hA6
          have hpm4 : (h.length ≤ b4) = True := eq_true (by omega)
          have hl6 := hx6.len
          have hlw : (wr g4 bz (L'.map .bool)).length = g4.length := by simp [wr]
          have hb4l := cells_lt hA2.at_
          have hput := hA6.put (lab' := lab) (m1 := (L'.length : Int)) (z1 := wz) (m2 := (mdB enL).size) (z2 := y2) k1 q2 (fun k hk => ?_) q4
          · have e1 : (mdB (lO (some L'))).size = (L'.length : Int) := rfl
            (try (simp (disch := first | omega | (simp <;> omega) | fail) only [push_cast, ↓reduceIte, Nat.reduceEqDiff, Nat.reduceAdd, Nat.reduceMul, Nat.reduceSub, Nat.reduceLT, Int.reduceToNat, at6, hpm4, k3, k4, p1, p2, p3, p4]))
            all_goals (try exact ⟨_, _, _, _, _, hput.mono (by omega), by omega⟩)
            done
          · have := k2 k hk
            exact ⟨by have := this.1; omega, by have := this.1; omega, this.2⟩
      by_cases z1 : m = 1
      · (try (simp (disch := first | omega | (simp <;> omega) | fail) only [push_cast, ↓reduceIte, Nat.reduceEqDiff, Nat.reduceAdd, Nat.reduceMul, Nat.reduceSub, Nat.reduceLT, Int.reduceToNat, z1, at2, p1, p2, p3, p4]))
        refine (c_spec_biList_o (mdB enL) (okBt_md (by omega))).goL (.cons (hv2 g2 _ hs2.f) .nil) fun z t' g3 hR hx3 how3 => ?_
        obtain ⟨oz, rfl, hz⟩ := hR
        rw [btL_md] at hz
        have hxl3 := hx3.len
        have hF3 : CurF g2 g3 b c (K + 401) := ⟨hx3.len, fun k hk _ => hx3.at_ hk, hA2.cur.frame (hx3.at_ hA2.cur.lt)⟩
        have hA3 := hA2.keep hF3
        cases oz with
        | none =>
          have hz' : [] = enL := hz
          have : enL.length = 0 := by rw [← hz']; rfl
          omega
        | some L0 =>
          have hz' : L0 = enL := hz
          subst hz'
          obtain ⟨bz, rfl, hbz, hcz⟩ := ow_bools how3
          (try (simp (disch := first | omega | (simp <;> omega) | fail) only [push_cast, ↓reduceIte, Nat.reduceEqDiff, Nat.reduceAdd, Nat.reduceMul, Nat.reduceSub, Nat.reduceLT, Int.reduceToNat, p1, p2, p3, p4]))
          refine (c_spec_l1Cur_pickA b c _ g3 L0.length hA3.cur (by omega) (by omega)).mono (fun y g4 hy => ?_) (fun b' _ hb' => Or.inl hb')
          obtain ⟨⟨mp, rfl, mp0, _, mp1⟩, hF4⟩ := hy
          obtain ⟨p, rfl⟩ : ∃ p : Nat, mp = (p : Int) := ⟨mp.toNat, by omega⟩
          have hp1 : p < L0.length := by have := mp1 (by omega); omega
          have hbz1 := hbz.1
          have hcz4 : g4.cells bz = some (L0.map .bool) := hF4.cells hcz (by have := hA2.cur.lt; omega)
          have hl4 := hF4.1
          have hiaz : iaddrA 1 (.sl bz 0 1 L0.length L0.length) (.int .i64 (p : Int)) = some (.adr bz p) := by
            rw [iaddrA_sl (by omega) (by omega)]
            simp
          have hgz : (L0.map AV.bool)[p]? = some (.bool (L0.getD p false)) := by simp [hp1]
          have hnz : g2.length ≤ bz := hbz1
          have hb2 := hA2.cur.lt
          have hset : over (L0.map AV.bool) p [.bool (!(L0.getD p false))] = (L0.set p (!(L0.getD p false))).map .bool := by rw [over_set (by simp; exact hp1), List.map_set]
          obtain ⟨L', hL'⟩ : ∃ L', L' = L0.set p (!(L0.getD p false)) := ⟨_, rfl⟩
          have hLl : L'.length = L0.length := by rw [hL']; simp
          have hlm : (L0.map AV.bool).length = L0.length := by simp
          have hpmz : (h.length ≤ bz) = True := eq_true (by have := hA2.2.2.1.1; omega)
          (try (simp (disch := first | omega | (simp <;> omega) | fail) only [push_cast, ↓reduceIte, Nat.reduceEqDiff, Nat.reduceAdd, Nat.reduceMul, Nat.reduceSub, Nat.reduceLT, Int.reduceToNat, hiaz, hcz4, hgz, hlm, hpmz, hset, ← hL']))
          have hwz : ∀ k, k ≠ bz → (wr g4 bz (L'.map .bool))[k]? = g4[k]? := fun k hk => by
            unfold wr
            rw [List.getElem?_set_ne (Ne.symm hk)]
          have hF5 : CurF g2 (wr g4 bz (L'.map .bool)) b c (K + 403) := ⟨by simp [wr]; omega, fun k hk hn => (hwz k (by omega)).trans ((hF4.2.1 k (by omega) hn).trans (hF3.2.1 k hk hn)), (hF4.2.2.mono (by omega)).frame (hwz b (by omega))⟩
          have hA5 := hA2.keep hF5
          have hcz5 : H.cells (wr g4 bz (L'.map .bool)) bz = some (L'.map .bool) := cells_wr2 (cells_lt hcz4)
          have hbs := biSome_o (some L') (by show L'.length ≤ 5000; omega)
          have hvz : Vw (wr g4 bz (L'.map .bool)) 0 (.sl bz 0 1 L0.length L0.length) (eO (some L')) := by
            rw [← hLl]
            exact vw_all (Nat.zero_le _) hcz5 (by simp) (one_map fun _ => rfl) (free_map_ fun _ => free_bool)
          refine hbs.goL (.cons hvz .nil) fun x t' g6 hR hx6 how6 => ?_
          subst hR
          obtain ⟨wz, Fz, rfl, k1, k2, k3, k4, _⟩ := ow_bt how6
          have hF6 : CurF (wr g4 bz (L'.map .bool)) g6 b c (K + 403) := ⟨hx6.len, fun k hk _ => hx6.at_ hk, hA5.cur.frame (hx6.at_ hA5.cur.lt)⟩
          have hA6 := hA5.keep hF6
          have at6 := hA6.at_
          obtain ⟨_, r2, r3, r4, r5, o1', o2', F1', F2', q1, q2, q3, q4⟩ := id hA6
          have hpm4 : (h.length ≤ b4) = True := eq_true (by omega)
          have hl6 := hx6.len
          have hlw : (wr g4 bz (L'.map .bool)).length = g4.length := by simp [wr]
          have hb4l := cells_lt hA2.at_
          have hput := hA6.put (lab' := lab) (m1 := (mdB shL).size) (z1 := y1) (m2 := (L'.length : Int)) (z2 := wz) q1 k1 q3 (fun k hk => ?_)
          · have e1 : (mdB (lO (some L'))).size = (L'.length : Int) := rfl
            (try (simp (disch := first | omega | (simp <;> omega) | fail) only [push_cast, ↓reduceIte, Nat.reduceEqDiff, Nat.reduceAdd, Nat.reduceMul, Nat.reduceSub, Nat.reduceLT, Int.reduceToNat, at6, hpm4, k3, k4, p1, p2, p3, p4]))
            all_goals (try exact ⟨_, _, _, _, _, hput.mono (by omega), by omega⟩)
            done
          · have := k2 k hk
            exact ⟨by have := this.1; omega, by have := this.1; omega, this.2⟩
      by_cases z2 : m = 2
      · (try (simp (disch := first | omega | (simp <;> omega) | fail) only [push_cast, ↓reduceIte, Nat.reduceEqDiff, Nat.reduceAdd, Nat.reduceMul, Nat.reduceSub, Nat.reduceLT, Int.reduceToNat, z2, at2, p1, p2, p3, p4]))
        refine (c_spec_l1Cur_spoilt b c _ g2 lab [97, 98, 122, 125, 32] hA2.cur (by omega) (by decide) (by decide) (by omega)).mono (fun y g3 hy => ?_) (fun b' _ hb' => Or.inl hb')
        obtain ⟨⟨s', rfl⟩, hF3⟩ := hy
        have hA3 := hA2.keep hF3
        have at3 := hA3.at_
        obtain ⟨_, r2, r3, r4, r5, o1', o2', F1', F2', q1, q2, q3, q4⟩ := id hA3
        have hput := hA3.put (lab' := s') (m1 := (mdB shL).size) (z1 := y1) (m2 := (mdB enL).size) (z2 := y2) q1 q2 q3 q4
        (try (simp (disch := first | omega | (simp <;> omega) | fail) only [push_cast, ↓reduceIte, Nat.reduceEqDiff, Nat.reduceAdd, Nat.reduceMul, Nat.reduceSub, Nat.reduceLT, Int.reduceToNat, at3, hpm4, p1, p2, p3, p4]))
        all_goals (try exact ⟨_, _, _, _, _, hput.mono (by omega), by omega⟩)
        done
      by_cases z3 : m = 3
      · (try (simp (disch := first | omega | (simp <;> omega) | fail) only [push_cast, ↓reduceIte, Nat.reduceEqDiff, Nat.reduceAdd, Nat.reduceMul, Nat.reduceSub, Nat.reduceLT, Int.reduceToNat, z3, at2, p1, p2, p3, p4]))
        refine (c_spec_l1Cur_anyBits_x b c _ g2 hA2.cur (by omega)).mono (fun y g3 hy => ?_) (fun b' _ hb' => Or.inl hb')
        obtain ⟨nn, ll, bb, hnb, rfl, _, hbb, hl3, hk3, hc3, hcb3⟩ := hy
        have hF3 : CurF g2 g3 b c _ := ⟨hl3, hk3, hc3⟩
        have hA3 := hA2.keep hF3
        have at3 := hA3.at_
        have hbbl := cells_lt hcb3
        have hb4l := cells_lt at2
        have hgl := hA2.2.2.1.1
        obtain ⟨_, r2, r3, r4, r5, o1', o2', F1', F2', q1, q2, q3, q4⟩ := id hA3
        have k1 : Ow g3 [.sl bb 0 1 ll.length ll.length] [eI (some ll)] (fun k => k = bb) := ow_map (f := AV.int .i64) (fun _ => rfl) hcb3 rfl rfl
        have hput := hA3.put (lab' := lab) (m1 := (mdB shL).size) (z1 := y1) (m2 := nn) (z2 := .sl bb 0 1 ll.length ll.length) q1 k1 q3 (fun k hk => ⟨by omega, by omega, by omega⟩)
        (try (simp (disch := first | omega | (simp <;> omega) | fail) only [push_cast, ↓reduceIte, Nat.reduceEqDiff, Nat.reduceAdd, Nat.reduceMul, Nat.reduceSub, Nat.reduceLT, Int.reduceToNat, at3, hpm4, p1, p2, p3, p4]))
        all_goals (try exact ⟨_, _, _, _, _, hput.mono (by omega), by omega⟩)
        done
      · (try (simp (disch := first | omega | (simp <;> omega) | fail) only [push_cast, ↓reduceIte, Nat.reduceEqDiff, Nat.reduceAdd, Nat.reduceMul, Nat.reduceSub, Nat.reduceLT, Int.reduceToNat, z0, z1, z2, z3]))
        all_goals (try exact ⟨_, _, _, _, _, hA2.mono (by omega), by omega⟩)
        done
    · rintro e g ⟨n1, z1, n2, z2, lab', hp, hT, hn2⟩
      refine K_pins hp fun e => ?_
      have hat := hT.at_
      obtain ⟨o1, o2, o3, o4⟩ := hT.ones
      have c0 := hT.2.2.2.1
      have hpm : (h.length ≤ h.length) = True := by simp
      have hw := fun cs => cells_wr2 (cells_lt c0) (cs := cs)
      have hfin : ∀ cs, ∃ t, Vw (wr g h.length cs) h.length (.agg [.int .i64 n1, z1, .int .i64 n2, z2, .str lab']) t ∧ (∃ t' : Tr, t = eTr t' ∧ t'.en.size ≤ 5300) ∧ CurF h (wr g h.length cs) b c (K + 900) := fun cs => by
        obtain ⟨t, f1, ⟨t', f2, f3⟩, f4⟩ := (hT.mono (show K + 700 ≤ K + 900 by omega)).fin cs
        exact ⟨t, f1, ⟨t', f2, by omega⟩, f4⟩
      unfold box0 at c0
      (try (simp (disch := first | omega | (simp <;> omega) | fail) only [push_cast, ↓reduceIte, Nat.reduceEqDiff, Nat.reduceAdd, Nat.reduceMul, Nat.reduceSub, Nat.reduceLT, Int.reduceToNat, hat, c0, hpm, hw, o1, o2, o3, o4]))
      all_goals (try exact hfin _)
      done

def zF : AV := .tup [.int .i64 0, .bool false]
def paV (t : Tr) (i : Int) : AV := match trV t with
  | some K => if 1 ≤ i ∧ i ≤ ((nodesK K).length : Int) - 1 then .tup [.int .i64 (fndI (nodesK K) (((nodesK K).getD i.toNat []).take (((nodesK K).getD i.toNat []).length - 1))), .bool true] else zF
  | none => zF
def chR (N : List Str) (s : Str) : AV := if fndI N s < 0 then zF else .tup [.int .i64 (fndI N s), .bool true]
def chV (t : Tr) (i c : Int) : AV := match trV t with
  | some K => if (0 ≤ i ∧ i ≤ ((nodesK K).length : Int) - 1) ∧ (0 ≤ c ∧ c ≤ 255) then chR (nodesK K) ((nodesK K).getD i.toNat [] ++ [UInt8.ofNat c.toNat]) else zF
  | none => zF
def txV (t : Tr) (s : Str) : AV := match trV t with
  | some K => if s ∈ K then .tup [.int .i64 (fndI ((nodesK K).filter fun x => decide (x ∈ K)) s), .bool true] else zF
  | none => zF
def rkV (t : Tr) (s : Str) : AV := match trV t with
  | some K => .tup [.int .i64 (rkS K s), .bool true]
  | none => zF
def KyR (t : Tr) (p : Str → Bool) (v : AV) : Prop := ∃ o b, v = .tup [eS o, .bool b] ∧ ((b = true ∧ ∃ K, trV t = some K ∧ lS o = K.filter p) ∨ (b = false ∧ trV t = none ∧ lS o = []))
def okV (t : Tr) : AV := match trV t with
  | some K => .tup [eS (some (nodesK K)), .bool true]
  | none => .tup [.nils, .bool false]
theorem trV_ok {t : Tr} {K : List Str} (h : trV t = some K) : okKeys K = true ∧ K.length ≤ 40 := ⟨(trV_some h).keys, (okKeys_all (trV_some h).keys).2.2⟩
theorem KyR.no {t : Tr} {p : Str → Bool} (h : trV t = none) : KyR t p (.tup [.nils, .bool false]) := ⟨none, false, rfl, .inr ⟨rfl, h, rfl⟩⟩

theorem c_spec_l1Cur_known (b : Nat) (t : Tr) : Fn Tryz.prog 35 [.adr b 0, eTr t] (fun x => ∃ o : Option (List Str), x = eS o ∧ (lS o).length ≤ 40 ∧ ∀ s ∈ lS o, s.length ≤ 12) := by
  refine Fn.froze_ fun h => ?_
  refine enter (by kernel_rfl) e35 (by kernel_rfl) rfl fun hok => ?_
  simp only [r35, initEnv_2]
  have hk := c_spec_trKeys t
  have hkk := fun K => @trV_ok t K
  have hfin : ∀ (hh : H) (o : Option (List Str)), (lS o).length ≤ 40 → (∀ s ∈ lS o, s.length ≤ 12) → ∃ t', Vw hh h.length (eS o) t' ∧ ∃ o : Option (List Str), t' = eS o ∧ (lS o).length ≤ 40 ∧ ∀ s ∈ lS o, s.length ≤ 12 := fun hh o h1 h2 => ⟨_, .free free_eS, o, rfl, h1, h2⟩
  have hno : ∀ hh : H, ∃ t', Vw hh h.length .nils t' ∧ ∃ o : Option (List Str), t' = eS o ∧ (lS o).length ≤ 40 ∧ ∀ s ∈ lS o, s.length ≤ 12 := fun hh => hfin hh none (by simp [lS]) (by simp [lS])
  obtain ⟨⟨ss, sw⟩, ⟨es, ew⟩, lab⟩ := t
  (try (simp (disch := first | omega | (simp <;> omega) | fail) only [push_cast, ↓reduceIte, Nat.reduceEqDiff, Nat.reduceAdd, Nat.reduceMul, Nat.reduceSub, Nat.reduceLT, Int.reduceToNat]))
  refine hk.use fun x hx => ?_
  obtain ⟨o, b, rfl, ⟨rfl, hx⟩ | ⟨rfl, hx⟩⟩ := hx
  · have hKo := okKeys_all (hkk _ hx).1
    have hf := fun hh => hfin hh o (by omega) fun s hs => (okKey_len (hKo.1 s hs)).2
    (try (simp (disch := first | omega | (simp <;> omega) | fail) only [push_cast, ↓reduceIte, Nat.reduceEqDiff, Nat.reduceAdd, Nat.reduceMul, Nat.reduceSub, Nat.reduceLT, Int.reduceToNat]))
    all_goals (try exact hf _)
    done
  · (try (simp (disch := first | omega | (simp <;> omega) | fail) only [push_cast, ↓reduceIte, Nat.reduceEqDiff, Nat.reduceAdd, Nat.reduceMul, Nat.reduceSub, Nat.reduceLT, Int.reduceToNat]))
    all_goals (try exact hno _)
    done

theorem getD_mem {α : Type} {L : List α} {k : Nat} {d : α} (hk : k < L.length) : L.getD k d ∈ L := by
  rw [List.getD_eq_getElem?_getD, List.getElem?_eq_getElem hk]
  exact List.getElem_mem hk

theorem c_spec_l1Cur_of (b : Nat) (c : Option (List UInt8)) (K : Nat) (h : H) (b2 : Nat) (L : List Str) (hcu : CurI h b c K) (hK : K ≤ 1000000000) (hL : 1 < L.length) (hL2 : L.length ≤ 200) (hb2 : h.cells b2 = some (L.map .str)) (hne : b2 ≠ b) :
    Call Tryz.prog 123 [.adr b 0, .sl b2 0 1 L.length L.length] h (fun b' => b' = b) (fun x h' => (∃ s : Str, x = .str s ∧ s ∈ L) ∧ CurS h h' b c (K + 1)) := by
  refine enter (by kernel_rfl) e123 (by kernel_rfl) rfl fun hok => ?_
  simp only [r123, initEnv_2]
  (try (simp (disch := first | omega | (simp <;> omega) | fail) only [push_cast, ↓reduceIte, Nat.reduceEqDiff, Nat.reduceAdd, Nat.reduceMul, Nat.reduceSub, Nat.reduceLT, Int.reduceToNat]))
  refine (c_spec_l1Cur_pick b c K h L.length hcu hK (by omega) (by omega)).mono (fun x h' hx => ?_) (fun b' _ hb' => Or.inl hb')
  obtain ⟨⟨m, rfl, m0, m1⟩, hs⟩ := hx
  have hb3 : h'.cells b2 = some (L.map .str) := cells_keep (hs.2.1 b2 hne) hb2
  have hget : (L.map AV.str)[m.toNat]? = some (.str (L.getD m.toNat [])) := by
    have : m.toNat < L.length := by omega
    simp [this]
  have hmem : L.getD m.toNat [] ∈ L := getD_mem (by omega)
  (try (simp (disch := first | omega | (simp <;> omega) | fail) only [push_cast, ↓reduceIte, Nat.reduceEqDiff, Nat.reduceAdd, Nat.reduceMul, Nat.reduceSub, Nat.reduceLT, Int.reduceToNat, hb3, hget]))
  all_goals (try exact ⟨⟨_, rfl, hmem⟩, hs⟩)

theorem c_spec_l1Cur_text (b : Nat) (c : Option (List UInt8)) (K : Nat) (h : H) (hcu : CurI h b c K) (hK : K ≤ 10000000) :
    Call Tryz.prog 72 [.adr b 0] h (fun b' => b' = b) (fun x g => (∃ s : Str, x = .str s ∧ s.length ≤ 13) ∧ CurF h g b c (K + 8)) := by
  refine Call.cur hcu.lt ?_
  refine enter (by kernel_rfl) e72 (by kernel_rfl) rfl fun hok => ?_
  simp only [r72, initEnv_1]
  have hbl := hcu.lt
  (try (simp (disch := first | omega | (simp <;> omega) | fail) only [push_cast, ↓reduceIte, Nat.reduceEqDiff, Nat.reduceAdd, Nat.reduceMul, Nat.reduceSub, Nat.reduceLT, Int.reduceToNat]))
  refine (c_spec_l1Cur_pick b c K h 16 hcu (by omega) (by omega) (by omega)).mono (fun x h1 hx => ?_) (fun b' _ hb' => Or.inl hb')
  obtain ⟨⟨k, rfl, k0, k1⟩, hs⟩ := hx
  have hF := hs.f
  by_cases z0 : k = 0
  · (try (simp (disch := first | omega | (simp <;> omega) | fail) only [push_cast, ↓reduceIte, Nat.reduceEqDiff, Nat.reduceAdd, Nat.reduceMul, Nat.reduceSub, Nat.reduceLT, Int.reduceToNat, z0]))
    all_goals (try exact ⟨_, .free free_str, ⟨_, rfl, by simp⟩, hF.mono (by omega)⟩)
  by_cases z1 : k = 1
  · (try (simp (disch := first | omega | (simp <;> omega) | fail) only [push_cast, ↓reduceIte, Nat.reduceEqDiff, Nat.reduceAdd, Nat.reduceMul, Nat.reduceSub, Nat.reduceLT, Int.reduceToNat, z1]))
    refine (c_spec_l1Cur_key b c _ h1 hs.2.2 (by omega)).mono (fun x h2 hx => ?_) (fun b' _ hb' => Or.inl hb')
    obtain ⟨⟨s, rfl, hsl⟩, hF2⟩ := hx
    (try (simp (disch := first | omega | (simp <;> omega) | fail) only [push_cast, ↓reduceIte, Nat.reduceEqDiff, Nat.reduceAdd, Nat.reduceMul, Nat.reduceSub, Nat.reduceLT, Int.reduceToNat]))
    all_goals (try exact ⟨_, .free free_str, ⟨_, rfl, by simp; omega⟩, (hF.trans hF2).mono (by omega)⟩)
  by_cases z2 : k = 2
  · (try (simp (disch := first | omega | (simp <;> omega) | fail) only [push_cast, ↓reduceIte, Nat.reduceEqDiff, Nat.reduceAdd, Nat.reduceMul, Nat.reduceSub, Nat.reduceLT, Int.reduceToNat, z2]))
    all_goals (try exact ⟨_, .free free_str, ⟨_, rfl, by simp⟩, hF.mono (by omega)⟩)
  by_cases z3 : k = 3
  · (try (simp (disch := first | omega | (simp <;> omega) | fail) only [push_cast, ↓reduceIte, Nat.reduceEqDiff, Nat.reduceAdd, Nat.reduceMul, Nat.reduceSub, Nat.reduceLT, Int.reduceToNat, z3]))
    refine ⟨rfl, ?_⟩
    have hM := (CurF.refl hs.2.2).more (l := [some (AObj.cells (([[126], [125], [97, 126], [127]] : List Str).map .str))])
    refine (c_spec_l1Cur_of b c _ (h1 ++ [some (AObj.cells (([[126], [125], [97, 126], [127]] : List Str).map .str))]) h1.length [[126], [125], [97, 126], [127]] hM.2.2 (by omega) (by decide) (by decide) (by rw [cells_h0]; rfl) (by have := hs.2.2.lt; omega)).mono (fun x h2 hx => ?_) (fun b' _ hb' => Or.inl hb')
    obtain ⟨⟨s, rfl, hsm⟩, hs2⟩ := hx
    have hsl : s.length ≤ 13 := by
      simp at hsm
      rcases hsm with rfl | rfl | rfl | rfl <;> simp
    have hF2 := (hF.trans hM).trans hs2.f
    (try (simp (disch := first | omega | (simp <;> omega) | fail) only [push_cast, ↓reduceIte, Nat.reduceEqDiff, Nat.reduceAdd, Nat.reduceMul, Nat.reduceSub, Nat.reduceLT, Int.reduceToNat]))
    all_goals (try exact ⟨_, .free free_str, ⟨_, rfl, hsl⟩, hF2.mono (by omega)⟩)
  (try (simp (disch := first | omega | (simp <;> omega) | fail) only [push_cast, ↓reduceIte, Nat.reduceEqDiff, Nat.reduceAdd, Nat.reduceMul, Nat.reduceSub, Nat.reduceLT, Int.reduceToNat, z0, z1, z2, z3]))
  refine (c_spec_l1Cur_key b c _ h1 hs.2.2 (by omega)).mono (fun x h2 hx => ?_) (fun b' _ hb' => Or.inl hb')
  obtain ⟨⟨s, rfl, hsl⟩, hF2⟩ := hx
  (try (simp (disch := first | omega | (simp <;> omega) | fail) only [push_cast, ↓reduceIte, Nat.reduceEqDiff, Nat.reduceAdd, Nat.reduceMul, Nat.reduceSub, Nat.reduceLT, Int.reduceToNat]))
  all_goals (try exact ⟨_, .free free_str, ⟨_, rfl, by omega⟩, (hF.trans hF2).mono (by omega)⟩)

theorem c_spec_l1Cur_ofE (b : Nat) (c : Option (List UInt8)) (K : Nat) (h : H) (o : Option (List Str)) (hcu : CurI h b c K) (hK : K ≤ 10000000) (hL : 1 ≤ (lS o).length) (hL2 : (lS o).length ≤ 200) :
    Call Tryz.prog 123 [.adr b 0, eS o] h (fun b' => b' = b) (fun x h' => (∃ s : Str, x = .str s ∧ s ∈ lS o) ∧ CurF h h' b c (K + 2)) := by
  refine enter (by kernel_rfl) e123 (by kernel_rfl) rfl fun hok => ?_
  simp only [r123, initEnv_2]
  (try (simp (disch := first | omega | (simp <;> omega) | fail) only [push_cast, ↓reduceIte, Nat.reduceEqDiff, Nat.reduceAdd, Nat.reduceMul, Nat.reduceSub, Nat.reduceLT, Int.reduceToNat]))
  refine (c_spec_l1Cur_pickA b c K h (lS o).length hcu hK (by omega)).mono (fun x h' hx => ?_) (fun b' _ hb' => Or.inl hb')
  obtain ⟨⟨m, rfl, m0, m1, m2⟩, hs⟩ := hx
  obtain ⟨m, rfl⟩ : ∃ m' : Nat, m = (m' : Int) := ⟨m.toNat, by omega⟩
  have hml : m < (lS o).length := by have := m2 (by omega); omega
  obtain ⟨y, hy⟩ : ∃ y, y = (lS o).getD m [] := ⟨_, rfl⟩
  have hgd : (lS o)[m]?.getD [] = y := by rw [hy, List.getD_eq_getElem?_getD]
  have hym : y ∈ lS o := by rw [hy]; simp [hml]
  (try (simp (disch := first | omega | (simp <;> omega) | fail) only [push_cast, ↓reduceIte, Nat.reduceEqDiff, Nat.reduceAdd, Nat.reduceMul, Nat.reduceSub, Nat.reduceLT, Int.reduceToNat, hgd, ← hy]))
  all_goals (try exact ⟨⟨_, rfl, hym⟩, hs⟩)
  done
theorem c_spec_l1Cur_other (b : Nat) (c : Option (List UInt8)) (K : Nat) (h : H) (o : Option (List Str)) (hcu : CurI h b c K) (hK : K ≤ 1000000) (hL2 : (lS o).length ≤ 40) (hs : ∀ s ∈ lS o, s.length ≤ 12) :
    Call Tryz.prog 78 [.adr b 0, eS o] h (fun b' => b' = b) (fun x h' => (∃ s : Str, x = .str s ∧ s.length ≤ 13) ∧ CurF h h' b c (K + 10)) := by
  refine enter (by kernel_rfl) e78 (by kernel_rfl) rfl fun hok => ?_
  simp only [r78, initEnv_2]
  have htx : ∀ (K' : Nat) (g : H), CurF h g b c K' → K' ≤ K + 2 → Call Tryz.prog 72 [.adr b 0] g (fun b' => b' = b) (fun x g' => (∃ s : Str, x = .str s ∧ s.length ≤ 13) ∧ CurF h g' b c (K + 10)) := fun K' g hg hk =>
    (c_spec_l1Cur_text b c K' g hg.2.2 (by omega)).mono (fun x g2 hx => ⟨hx.1, (hg.trans hx.2).mono (by omega)⟩) (fun _ _ h => h)
  (try (simp (disch := first | omega | (simp <;> omega) | fail) only [push_cast, ↓reduceIte, Nat.reduceEqDiff, Nat.reduceAdd, Nat.reduceMul, Nat.reduceSub, Nat.reduceLT, Int.reduceToNat]))
  first | refine goC_split (fun hc => ?_) (fun hc => ?_) | refine cnd_split (fun hc => ?_) (fun hc => ?_)
  · (try (simp only [decide_eq_true_eq, decide_eq_false_iff_not, Bool.not_eq_true', Bool.not_eq_false', Bool.and_eq_true, Bool.or_eq_true, Int.not_lt, Int.not_le] at hc)); (try (simp (disch := first | omega | (simp <;> omega) | fail) only [push_cast, ↓reduceIte, Nat.reduceEqDiff, Nat.reduceAdd, Nat.reduceMul, Nat.reduceSub, Nat.reduceLT, Int.reduceToNat]))
    refine (c_spec_l1Cur_one b c _ h 2 hcu (by omega) (by omega) (by omega)).mono (fun x g2 hx => ?_) (fun b' _ hb' => Or.inl hb')
    obtain ⟨⟨t, rfl⟩, hs2⟩ := hx
    cases t
    · (try (simp (disch := first | omega | (simp <;> omega) | fail) only [push_cast, ↓reduceIte, Nat.reduceEqDiff, Nat.reduceAdd, Nat.reduceMul, Nat.reduceSub, Nat.reduceLT, Int.reduceToNat]))
      refine (htx _ _ hs2.f (by omega)).mono (fun x g3 hx => ?_) (fun b' _ hb' => Or.inl hb')
      obtain ⟨⟨s, rfl, hsl⟩, hF⟩ := hx
      (try (simp (disch := first | omega | (simp <;> omega) | fail) only [push_cast, ↓reduceIte, Nat.reduceEqDiff, Nat.reduceAdd, Nat.reduceMul, Nat.reduceSub, Nat.reduceLT, Int.reduceToNat]))
      all_goals (try exact ⟨⟨_, rfl, hsl⟩, hF⟩)
      done
    · (try (simp (disch := first | omega | (simp <;> omega) | fail) only [push_cast, ↓reduceIte, Nat.reduceEqDiff, Nat.reduceAdd, Nat.reduceMul, Nat.reduceSub, Nat.reduceLT, Int.reduceToNat]))
      refine (c_spec_l1Cur_ofE b c _ g2 o hs2.2.2 (by omega) (by omega) (by omega)).mono (fun x g3 hx => ?_) (fun b' _ hb' => Or.inl hb')
      obtain ⟨⟨s, rfl, hsm⟩, hF⟩ := hx
      have hF2 := (hs2.f.trans hF).mono (K' := K + 10) (by omega)
      have hsl : s.length ≤ 13 := by have := hs s hsm; omega
      (try (simp (disch := first | omega | (simp <;> omega) | fail) only [push_cast, ↓reduceIte, Nat.reduceEqDiff, Nat.reduceAdd, Nat.reduceMul, Nat.reduceSub, Nat.reduceLT, Int.reduceToNat]))
      all_goals (try exact ⟨⟨_, rfl, hsl⟩, hF2⟩)
      done
  · (try (simp only [decide_eq_true_eq, decide_eq_false_iff_not, Bool.not_eq_true', Bool.not_eq_false', Bool.and_eq_true, Bool.or_eq_true, Int.not_lt, Int.not_le] at hc)); (try (simp (disch := first | omega | (simp <;> omega) | fail) only [push_cast, ↓reduceIte, Nat.reduceEqDiff, Nat.reduceAdd, Nat.reduceMul, Nat.reduceSub, Nat.reduceLT, Int.reduceToNat]))
    refine (htx _ _ (CurF.refl hcu) (by omega)).mono (fun x g3 hx => ?_) (fun b' _ hb' => Or.inl hb')
    obtain ⟨⟨s, rfl, hsl⟩, hF⟩ := hx
    (try (simp (disch := first | omega | (simp <;> omega) | fail) only [push_cast, ↓reduceIte, Nat.reduceEqDiff, Nat.reduceAdd, Nat.reduceMul, Nat.reduceSub, Nat.reduceLT, Int.reduceToNat]))
    all_goals (try exact ⟨⟨_, rfl, hsl⟩, hF⟩)
    done

theorem c_spec_l1Cur_asked (b : Nat) (c : Option (List UInt8)) (K : Nat) (h : H) (o : Option (List Str)) (hcu : CurI h b c K) (hK : K ≤ 1000000) (hL2 : (lS o).length ≤ 40) (hs : ∀ s ∈ lS o, s.length ≤ 12) :
    Call Tryz.prog 34 [.adr b 0, eS o] h (fun b' => b' = b) (fun x h' => (∃ s : Str, x = .str s ∧ s.length ≤ 30) ∧ CurF h h' b c (K + 20)) := by
  refine enter (by kernel_rfl) e34 (by kernel_rfl) rfl fun hok => ?_
  simp only [r34, initEnv_2]
  (try (simp (disch := first | omega | (simp <;> omega) | fail) only [push_cast, ↓reduceIte, Nat.reduceEqDiff, Nat.reduceAdd, Nat.reduceMul, Nat.reduceSub, Nat.reduceLT, Int.reduceToNat]))
  refine (c_spec_l1Cur_other b c K h o hcu hK hL2 hs).mono (fun x g hx => ?_) (fun b' _ hb' => Or.inl hb')
  obtain ⟨⟨s, rfl, hsl⟩, hF⟩ := hx
  (try (simp (disch := first | omega | (simp <;> omega) | fail) only [push_cast, ↓reduceIte, Nat.reduceEqDiff, Nat.reduceAdd, Nat.reduceMul, Nat.reduceSub, Nat.reduceLT, Int.reduceToNat]))
  refine (c_spec_l1Cur_pick b c _ g 4 hF.2.2 (by omega) (by omega) (by omega)).mono (fun x g2 hx => ?_) (fun b' _ hb' => Or.inl hb')
  obtain ⟨⟨k, rfl, k0, k1⟩, hs2⟩ := hx
  have hF2 := hF.trans hs2.f
  by_cases z0 : k = 0
  · (try (simp (disch := first | omega | (simp <;> omega) | fail) only [push_cast, ↓reduceIte, Nat.reduceEqDiff, Nat.reduceAdd, Nat.reduceMul, Nat.reduceSub, Nat.reduceLT, Int.reduceToNat, z0]))
    refine (c_spec_l1Cur_pickA b c _ g2 ((s.length : Int) + 1) hF2.2.2 (by omega) (by omega)).mono (fun x g3 hx => ?_) (fun b' _ hb' => Or.inl hb')
    obtain ⟨⟨m, rfl, m0, m1, m2⟩, hs3⟩ := hx
    obtain ⟨m, rfl⟩ : ∃ m' : Nat, m = (m' : Int) := ⟨m.toNat, by omega⟩
    have hml : m ≤ s.length := by have := m2 (by omega); omega
    have hF3 := (hF2.trans hs3).mono (K' := K + 20) (by omega)
    have htl : (s.take m).length ≤ 30 := by rw [List.length_take]; omega
    (try (simp (disch := first | omega | (simp <;> omega) | fail) only [push_cast, ↓reduceIte, Nat.reduceEqDiff, Nat.reduceAdd, Nat.reduceMul, Nat.reduceSub, Nat.reduceLT, Int.reduceToNat]))
    all_goals (try exact ⟨⟨_, rfl, htl⟩, hF3⟩)
    done
  by_cases z1 : k = 1
  · (try (simp (disch := first | omega | (simp <;> omega) | fail) only [push_cast, ↓reduceIte, Nat.reduceEqDiff, Nat.reduceAdd, Nat.reduceMul, Nat.reduceSub, Nat.reduceLT, Int.reduceToNat, z1]))
    refine (c_spec_l1Cur_key b c _ g2 hF2.2.2 (by omega)).mono (fun x g3 hx => ?_) (fun b' _ hb' => Or.inl hb')
    obtain ⟨⟨r, rfl, hrl⟩, hs3⟩ := hx
    have hF3 := (hF2.trans hs3).mono (K' := K + 20) (by omega)
    have htl : (s ++ r).length ≤ 30 := by rw [List.length_append]; omega
    (try (simp (disch := first | omega | (simp <;> omega) | fail) only [push_cast, ↓reduceIte, Nat.reduceEqDiff, Nat.reduceAdd, Nat.reduceMul, Nat.reduceSub, Nat.reduceLT, Int.reduceToNat]))
    all_goals (try exact ⟨⟨_, rfl, htl⟩, hF3⟩)
    done
  have hF3 := hF2.mono (K' := K + 20) (by omega)
  have htl : s.length ≤ 30 := by omega
  (try (simp (disch := first | omega | (simp <;> omega) | fail) only [push_cast, ↓reduceIte, Nat.reduceEqDiff, Nat.reduceAdd, Nat.reduceMul, Nat.reduceSub, Nat.reduceLT, Int.reduceToNat, z0, z1]))
  all_goals (try exact ⟨⟨_, rfl, htl⟩, hF3⟩)
  done

theorem c_spec_DrawTrieRank (c : Option (List UInt8)) : Fn Tryz.prog 7 [eU c] (fun x => ∃ (t : Tr) (s : Str), x = .tup [eTr t, .str s] ∧ s.length ≤ 30) := by
  refine Fn.froze_ fun h => ?_
  refine enter (by kernel_rfl) e7 (by kernel_rfl) rfl fun hok => ?_
  simp only [r7, initEnv_1]
  have hfb : fillA [.nils, .int .i64 0, .int .u64 0] [(0, 1, eU c)] = some [eU c, .int .i64 0, .int .u64 0] := by cases c <;> rfl
  have hcp : ∀ b', b' = h.length + 1 → Nowhere b' ∨ h.length ≤ b' := fun b' hb' => Or.inr (by omega)
  (try (simp (disch := first | omega | (simp <;> omega) | fail) only [push_cast, ↓reduceIte, Nat.reduceEqDiff, Nat.reduceAdd, Nat.reduceMul, Nat.reduceSub, Nat.reduceLT, Int.reduceToNat, hfb]))
  refine (c_spec_l1Cur_trie (h.length + 1) c 0 (h ++ [some (.cells [.int .i64 0, .nils, .int .i64 0, .nils, .str []]), some (.cells [eU c, .int .i64 0, .int .u64 0])]) ⟨0, 0, by rw [cells_hk]; rfl, Nat.le_refl _⟩ (by omega)).mono (fun x g0 hx => ?_) (fun b' _ hb' => hcp b' hb')
  obtain ⟨⟨t, rfl, hsz⟩, hF⟩ := hx
  have hkn := c_spec_l1Cur_known (h.length + 1) t
  obtain ⟨⟨ss, sw⟩, ⟨es, ew⟩, lab⟩ := t
  have hM := hF.more (l := [some (.cells [.int .i64 ss, eI sw, .int .i64 es, eI ew, .str lab])])
  have cb : H.cells (g0 ++ [some (.cells [.int .i64 ss, eI sw, .int .i64 es, eI ew, .str lab])]) g0.length = some [.int .i64 ss, eI sw, .int .i64 es, eI ew, .str lab] := by rw [cells_h0]; rfl
  have hlg := hF.1
  simp only [List.length_append, List.length_cons, List.length_nil] at hlg
  have hpm : (h.length ≤ h.length) = True := by simp
  have hfin : ∀ (hh : H) (s : Str), s.length ≤ 30 → ∃ t', Vw hh h.length (.tup [eTr ⟨⟨ss, sw⟩, ⟨es, ew⟩, lab⟩, .str s]) t' ∧ ∃ (t : Tr) (s : Str), t' = .tup [eTr t, .str s] ∧ s.length ≤ 30 := fun hh s hs => ⟨_, .free (free_tup (free_cons_ free_eTr (free_cons_ free_str free_nil_))), _, _, rfl, hs⟩
  (try (simp (disch := first | omega | (simp <;> omega) | fail) only [push_cast, ↓reduceIte, Nat.reduceEqDiff, Nat.reduceAdd, Nat.reduceMul, Nat.reduceSub, Nat.reduceLT, Int.reduceToNat, cb, reads, List.mem_cons, List.mem_append, List.not_mem_nil, nat_ff, or_self, or_false, false_or, not_false_eq_true]))
  repeat' (with_reducible refine And.intro ?_ ?_)
  all_goals
    refine hkn.use fun y hy => ?_
    obtain ⟨o, rfl, hol, hos⟩ := hy
    (try (simp (disch := first | omega | (simp <;> omega) | fail) only [push_cast, ↓reduceIte, Nat.reduceEqDiff, Nat.reduceAdd, Nat.reduceMul, Nat.reduceSub, Nat.reduceLT, Int.reduceToNat, cb, reads, List.mem_cons, List.mem_append, List.not_mem_nil, nat_ff, or_self, or_false, false_or, not_false_eq_true]))
    repeat' (with_reducible refine And.intro ?_ ?_)
    all_goals
      refine (c_spec_l1Cur_asked (h.length + 1) c _ _ o hM.2.2 (by omega) hol hos).mono (fun y g1 hy => ?_) (fun b' _ hb' => hcp b' hb')
      obtain ⟨⟨s, rfl, hsl⟩, hF1⟩ := hy
      have c0 : g1.cells h.length = some [.int .i64 0, .nils, .int .i64 0, .nils, .str []] := (hM.trans hF1).cells (k := h.length) (by rw [cells_h0]; rfl) (by omega)
      have cb1 : g1.cells g0.length = some [.int .i64 ss, eI sw, .int .i64 es, eI ew, .str lab] := hF1.cells cb (by omega)
      have hw := fun cs => cells_wr2 (cells_lt c0) (cs := cs)
      (try (simp (disch := first | omega | (simp <;> omega) | fail) only [push_cast, ↓reduceIte, Nat.reduceEqDiff, Nat.reduceAdd, Nat.reduceMul, Nat.reduceSub, Nat.reduceLT, Int.reduceToNat, c0, cb1, hpm, hw, reads, List.mem_cons, List.mem_append, List.not_mem_nil, nat_ff, or_self, or_false, false_or, not_false_eq_true]))
      all_goals (try exact hfin _ _ hsl)
      done

theorem c_spec_l1Cur_anyKeys (b : Nat) (c : Option (List UInt8)) (K : Nat) (h : H) (most : Nat) (hcu : CurI h b c K) (hK : K ≤ 1000000) (h1m : 1 ≤ most) (hm : most ≤ 40) :
    Call Tryz.prog 32 [.adr b 0, .int .i64 most] h (fun b' => b' = b) (fun x g => (∃ o : Option (List Str), x = eS o ∧ (lS o).length ≤ 42) ∧ CurF h g b c (K + 400)) := by
  refine Call.cur hcu.lt ?_
  refine enter (by kernel_rfl) e32 (by kernel_rfl) rfl fun hok => ?_
  simp only [r32, initEnv_2]
  have hbl := hcu.lt
  (try (simp (disch := first | omega | (simp <;> omega) | fail) only [push_cast, ↓reduceIte, Nat.reduceEqDiff, Nat.reduceAdd, Nat.reduceMul, Nat.reduceSub, Nat.reduceLT, Int.reduceToNat]))
  refine (c_spec_l1Cur_keys b c K h most hcu (by omega) h1m hm).mono (fun x h1 hx => ?_) (fun b' _ hb' => Or.inl hb')
  obtain ⟨l, hG, hll⟩ := hx
  generalize x = v at hG
  have hfin : ∀ (g : H) (K' : Nat) (v : AV) (l : List Str), GrD AV.str h g b c K' v l → K' ≤ K + 400 → l.length ≤ 42 → ∃ t, Vw g h.length v t ∧ (∃ o : Option (List Str), t = eS o ∧ (lS o).length ≤ 42) ∧ CurF h g b c (K + 400) := by
    intro g K' v l hG hK' hl
    obtain ⟨f1, f2, B, f3, f4⟩ := hG
    obtain ⟨o, ho, hol⟩ := f3.vwS0 f4
    exact ⟨_, ho, ⟨o, rfl, by rw [hol]; exact hl⟩, f1.mono hK'⟩
  (try (simp (disch := first | omega | (simp <;> omega) | fail) only [push_cast, ↓reduceIte, Nat.reduceEqDiff, Nat.reduceAdd, Nat.reduceMul, Nat.reduceSub, Nat.reduceLT, Int.reduceToNat]))
  refine (c_spec_l1Cur_pick b c _ h1 14 hG.1.2.2 (by omega) (by omega) (by omega)).mono (fun x h2 hx => ?_) (fun b' _ hb' => Or.inl hb')
  obtain ⟨⟨k, rfl, k0, k1⟩, hs⟩ := hx
  have hG2 := hG.step hs.f
  by_cases z0 : k = 0
  · (try (simp (disch := first | omega | (simp <;> omega) | fail) only [push_cast, ↓reduceIte, Nat.reduceEqDiff, Nat.reduceAdd, Nat.reduceMul, Nat.reduceSub, Nat.reduceLT, Int.reduceToNat, z0]))
    refine (c_spec_l1Cur_text b c _ h2 hG2.1.2.2 (by omega)).mono (fun x h3 hx => ?_) (fun b' _ hb' => Or.inl hb')
    obtain ⟨⟨s, rfl, hsl⟩, hF⟩ := hx
    have hG3 := hG2.step hF
    (try (simp (disch := first | omega | (simp <;> omega) | fail) only [push_cast, ↓reduceIte, Nat.reduceEqDiff, Nat.reduceAdd, Nat.reduceMul, Nat.reduceSub, Nat.reduceLT, Int.reduceToNat]))
    refine hG3.app (a := s) (by_ := 16) rfl (fun y hy => Or.inr hy) (by omega) fun v2 g3 hG4 => ?_
    (try (simp (disch := first | omega | (simp <;> omega) | fail) only [push_cast, ↓reduceIte, Nat.reduceEqDiff, Nat.reduceAdd, Nat.reduceMul, Nat.reduceSub, Nat.reduceLT, Int.reduceToNat]))
    all_goals (try exact hfin _ _ _ _ hG4 (by omega) (by simp; omega))
  by_cases z1 : k = 1
  · have hlv := hG2.lenA
    (try (simp (disch := first | omega | (simp <;> omega) | fail) only [push_cast, ↓reduceIte, Nat.reduceEqDiff, Nat.reduceAdd, Nat.reduceMul, Nat.reduceSub, Nat.reduceLT, Int.reduceToNat, z1, hlv]))
    first | refine goC_split (fun hc => ?_) (fun hc => ?_) | refine cnd_split (fun hc => ?_) (fun hc => ?_)
    · (try (simp only [decide_eq_true_eq, decide_eq_false_iff_not, Bool.not_eq_true', Bool.not_eq_false', Bool.and_eq_true, Bool.or_eq_true, Int.not_lt, Int.not_le] at hc)); (try (simp (disch := first | omega | (simp <;> omega) | fail) only [push_cast, ↓reduceIte, Nat.reduceEqDiff, Nat.reduceAdd, Nat.reduceMul, Nat.reduceSub, Nat.reduceLT, Int.reduceToNat]))
      (try (simp (disch := first | omega | (simp <;> omega) | fail) only [push_cast, ↓reduceIte, Nat.reduceEqDiff, Nat.reduceAdd, Nat.reduceMul, Nat.reduceSub, Nat.reduceLT, Int.reduceToNat, hlv]))
      refine (c_spec_l1Cur_pickAny b c _ h2 l.length hG2.1.2.2 (by omega) (by omega)).mono (fun x h3 hx => ?_) (fun b' _ hb' => Or.inl hb')
      obtain ⟨⟨q, rfl, q0, q1⟩, hs3⟩ := hx
      obtain ⟨q, rfl⟩ : ∃ q' : Nat, q = (q' : Int) := ⟨q.toNat, by omega⟩
      have hG3 := hG2.step hs3.f
      obtain ⟨f1, f2, B, f3, f4⟩ := id hG3
      rcases f3.2 with ⟨_, h0, _⟩ | ⟨bv, hv, _, hcb⟩
      · omega
      have hia : iaddrA 1 v (.int .i64 q) = some (.adr bv q) := by
        rw [hv, iaddrA_sl (by omega) (by omega)]
        simp
      have hget : (l.map AV.str)[q]? = some (.str (l.getD q [])) := by
        have : q < l.length := by omega
        simp [this]
      (try (simp (disch := first | omega | (simp <;> omega) | fail) only [push_cast, ↓reduceIte, Nat.reduceEqDiff, Nat.reduceAdd, Nat.reduceMul, Nat.reduceSub, Nat.reduceLT, Int.reduceToNat, hia, hcb, hget]))
      refine hG3.app (a := l.getD q []) (by_ := 16) rfl (fun y hy => Or.inr hy) (by omega) fun v2 g3 hG4 => ?_
      (try (simp (disch := first | omega | (simp <;> omega) | fail) only [push_cast, ↓reduceIte, Nat.reduceEqDiff, Nat.reduceAdd, Nat.reduceMul, Nat.reduceSub, Nat.reduceLT, Int.reduceToNat]))
      all_goals (try exact hfin _ _ _ _ hG4 (by omega) (by simp; omega))
    · (try (simp only [decide_eq_true_eq, decide_eq_false_iff_not, Bool.not_eq_true', Bool.not_eq_false', Bool.and_eq_true, Bool.or_eq_true, Int.not_lt, Int.not_le] at hc)); (try (simp (disch := first | omega | (simp <;> omega) | fail) only [push_cast, ↓reduceIte, Nat.reduceEqDiff, Nat.reduceAdd, Nat.reduceMul, Nat.reduceSub, Nat.reduceLT, Int.reduceToNat]))
      (try (simp (disch := first | omega | (simp <;> omega) | fail) only [push_cast, ↓reduceIte, Nat.reduceEqDiff, Nat.reduceAdd, Nat.reduceMul, Nat.reduceSub, Nat.reduceLT, Int.reduceToNat]))
      all_goals (try exact hfin _ _ _ _ hG2 (by omega) (by omega))
  by_cases z2 : k = 2
  · (try (simp (disch := first | omega | (simp <;> omega) | fail) only [push_cast, ↓reduceIte, Nat.reduceEqDiff, Nat.reduceAdd, Nat.reduceMul, Nat.reduceSub, Nat.reduceLT, Int.reduceToNat, z2]))
    refine (c_spec_l1Cur_pick b c _ h2 2 hG2.1.2.2 (by omega) (by omega) (by omega)).mono (fun x h3 hx => ?_) (fun b' _ hb' => Or.inl hb')
    obtain ⟨⟨q, rfl, q0, q1⟩, hs3⟩ := hx
    obtain ⟨nn, hnn⟩ : ∃ nn : Nat, 40 + q = (nn : Int) := ⟨(40 + q).toNat, by omega⟩
    have hG3 := hG2.step hs3.f
    (try (simp (disch := first | omega | (simp <;> omega) | fail) only [push_cast, ↓reduceIte, Nat.reduceEqDiff, Nat.reduceAdd, Nat.reduceMul, Nat.reduceSub, Nat.reduceLT, Int.reduceToNat, hnn]))
    refine (c_spec_l1Cur_many b c _ h3 nn hG3.1.2.2 (by omega)).mono (fun x h4 hx => ?_) (fun b' _ hb' => Or.inl hb')
    obtain ⟨l4, hG4, hl4⟩ := hx
    have hG5 : GrD AV.str h h4 b c (K + 300 + 1 + 1) x l4 := by
      obtain ⟨f1, f2, B, f3, f4⟩ := hG4
      have := hG3.1.1
      exact ⟨hG3.1.trans f1, hG3.2.1, B, f3, fun k hk => by have := f4 k hk; omega⟩
    (try (simp (disch := first | omega | (simp <;> omega) | fail) only [push_cast, ↓reduceIte, Nat.reduceEqDiff, Nat.reduceAdd, Nat.reduceMul, Nat.reduceSub, Nat.reduceLT, Int.reduceToNat]))
    all_goals (try exact hfin _ _ _ _ hG5 (by omega) (by omega))
  (try (simp (disch := first | omega | (simp <;> omega) | fail) only [push_cast, ↓reduceIte, Nat.reduceEqDiff, Nat.reduceAdd, Nat.reduceMul, Nat.reduceSub, Nat.reduceLT, Int.reduceToNat, z0, z1, z2]))
  all_goals (try exact hfin _ _ _ _ hG2 (by omega) (by omega))

theorem c_spec_DrawBuildFront (c : Option (List UInt8)) : Fn Tryz.prog 6 [eU c] (fun x => ∃ (o : Option (List Str)) (n : Int), x = .tup [eS o, .int .i64 n] ∧ (lS o).length ≤ 42 ∧ -1 ≤ n ∧ n ≤ 17) := by
  refine Fn.froze_ fun h => ?_
  refine enter (by kernel_rfl) e6 (by kernel_rfl) rfl fun hok => ?_
  simp only [r6, initEnv_1]
  have hfb : fillA [.nils, .int .i64 0, .int .u64 0] [(0, 1, eU c)] = some [eU c, .int .i64 0, .int .u64 0] := by cases c <;> rfl
  have hcp : ∀ b', b' = h.length → Nowhere b' ∨ h.length ≤ b' := fun b' hb' => Or.inr (by omega)
  have hfin : ∀ (hh : H) (o : Option (List Str)) (n : Int), (lS o).length ≤ 42 → -1 ≤ n → n ≤ 17 → ∃ t', Vw hh h.length (.tup [eS o, .int .i64 n]) t' ∧ ∃ (o : Option (List Str)) (n : Int), t' = .tup [eS o, .int .i64 n] ∧ (lS o).length ≤ 42 ∧ -1 ≤ n ∧ n ≤ 17 := fun hh o n h1 h2 h3 => ⟨_, .free (free_tup (free_cons_ free_eS (free_cons_ free_int free_nil_))), o, n, rfl, h1, h2, h3⟩
  have hany : ∀ (K' : Nat) (g : H), CurF (h ++ [some (.cells [eU c, .int .i64 0, .int .u64 0])]) g h.length c K' → K' ≤ 10 → Call Tryz.prog 32 [.adr h.length 0, .int .i64 10] g (fun b' => b' = h.length) (fun x g' => ∃ o : Option (List Str), x = eS o ∧ (lS o).length ≤ 42) := fun K' g hg hk =>
    (c_spec_l1Cur_anyKeys h.length c K' g 10 hg.2.2 (by omega) (by omega) (by omega)).mono (fun x g2 hx => hx.1) (fun _ _ h => h)
  (try (simp (disch := first | omega | (simp <;> omega) | fail) only [push_cast, ↓reduceIte, Nat.reduceEqDiff, Nat.reduceAdd, Nat.reduceMul, Nat.reduceSub, Nat.reduceLT, Int.reduceToNat, hfb]))
  refine (c_spec_l1Cur_pick h.length c 0 (h ++ [some (.cells [eU c, .int .i64 0, .int .u64 0])]) 4 ⟨0, 0, by rw [cells_h0]; rfl, Nat.le_refl _⟩ (by omega) (by omega) (by omega)).mono (fun x g0 hx => ?_) (fun b' _ hb' => hcp b' hb')
  obtain ⟨⟨k, rfl, k0, k1⟩, hs⟩ := hx
  (try (simp (disch := first | omega | (simp <;> omega) | fail) only [push_cast, ↓reduceIte, Nat.reduceEqDiff, Nat.reduceAdd, Nat.reduceMul, Nat.reduceSub, Nat.reduceLT, Int.reduceToNat]))
  refine (c_spec_l1Cur_one h.length c _ g0 6 hs.2.2 (by omega) (by omega) (by omega)).mono (fun x g1 hx => ?_) (fun b' _ hb' => hcp b' hb')
  obtain ⟨⟨t, rfl⟩, hs1⟩ := hx
  have hF := hs.f.trans hs1.f
  have hl1 := hF.1
  simp only [List.length_append, List.length_cons, List.length_nil] at hl1
  cases t
  · (try (simp (disch := first | omega | (simp <;> omega) | fail) only [push_cast, ↓reduceIte, Nat.reduceEqDiff, Nat.reduceAdd, Nat.reduceMul, Nat.reduceSub, Nat.reduceLT, Int.reduceToNat]))
    refine (hany _ g1 hF (by omega)).mono (fun x g2 hx => ?_) (fun b' _ hb' => hcp b' hb')
    obtain ⟨o, rfl, hol⟩ := hx
    (try (simp (disch := first | omega | (simp <;> omega) | fail) only [push_cast, ↓reduceIte, Nat.reduceEqDiff, Nat.reduceAdd, Nat.reduceMul, Nat.reduceSub, Nat.reduceLT, Int.reduceToNat]))
    all_goals (try exact hfin _ o _ hol (by omega) (by omega))
    done
  · (try (simp (disch := first | omega | (simp <;> omega) | fail) only [push_cast, ↓reduceIte, Nat.reduceEqDiff, Nat.reduceAdd, Nat.reduceMul, Nat.reduceSub, Nat.reduceLT, Int.reduceToNat]))
    refine ⟨rfl, ?_⟩
    have hM := (CurF.refl hF.2.2).more (l := [some (AObj.cells (([-1, 0, 16, 17] : List Int).map (.int .i64)))])
    refine (c_spec_l1Cur_among h.length c _ (g1 ++ [some (AObj.cells (([-1, 0, 16, 17] : List Int).map (.int .i64)))]) g1.length [-1, 0, 16, 17] hM.2.2 (by omega) (by decide) (by decide) (by rw [cells_h0]; rfl) (by omega)).mono (fun x g2 hx => ?_) (fun b' _ hb' => hcp b' hb')
    obtain ⟨⟨n, rfl, hnm⟩, hs2⟩ := hx
    have hn : -1 ≤ n ∧ n ≤ 17 := by
      simp at hnm
      omega
    have hF2 := (hF.trans hM).trans hs2.f
    (try (simp (disch := first | omega | (simp <;> omega) | fail) only [push_cast, ↓reduceIte, Nat.reduceEqDiff, Nat.reduceAdd, Nat.reduceMul, Nat.reduceSub, Nat.reduceLT, Int.reduceToNat]))
    refine (hany _ g2 hF2 (by omega)).mono (fun x g3 hx => ?_) (fun b' _ hb' => hcp b' hb')
    obtain ⟨o, rfl, hol⟩ := hx
    (try (simp (disch := first | omega | (simp <;> omega) | fail) only [push_cast, ↓reduceIte, Nat.reduceEqDiff, Nat.reduceAdd, Nat.reduceMul, Nat.reduceSub, Nat.reduceLT, Int.reduceToNat]))
    all_goals (try exact hfin _ o _ hol hn.1 hn.2)
    done

end Go.Proofs.YtdkgoaiodjokpaaGreat.M
