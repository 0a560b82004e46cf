/-
  What the functions return.
-/
import Derived.Test.YtakjemikampncaaGreatDoorFzk
import Derived.Test.YtakjemikampncaaGreatDoorCzc
namespace Go.Proofs.YtakjemikampncaaGreatDoor.M
open Go Go.RowKit
attribute [local instance] dqF
set_option linter.unusedVariables false
set_option linter.unusedSimpArgs false
set_option maxRecDepth 4000

theorem c_spec_l1Cur_next (b : Nat) (c : Option (List UInt8)) (K : Nat) (h : H) (hc : CurI h b c K) (hK : K ≤ 1000000000) :
    Call Tryz.prog 95 [.adr b 0] h (fun b' => b' = b) (fun x h' => (∃ n : Int, x = .int .i64 n ∧ 0 ≤ n ∧ n ≤ 255) ∧ CurS h h' b c (K + 1)) := by
  refine enter (by kernel_rfl) e95 (by kernel_rfl) rfl fun hok => ?_
  simp only [r95, initEnv_1]
  obtain ⟨a, sd, hcs, ha⟩ := hc
  have hlt := cells_lt hcs
  have hpm : (b = b) = True := by simp
  have hw1 := fun cs => cells_wr hlt cs
  have hw2 := fun cs cs' => wr_wr (h := h) (b := b) cs cs'
  have fin : ∀ (sd' : Int), CurS h (wr h b [eU c, .int .i64 ((a : Int) + 1), .int .u64 sd']) b c (K + 1) := fun sd' => by
    refine ⟨by simp [wr], fun b' hb' => ?_, a + 1, sd', ?_, by omega⟩
    · unfold wr
      rw [List.getElem?_set_ne (Ne.symm hb')]
    · rw [cells_wr hlt]
      simp
  by_cases hlt2 : a < (lU c).length
  · have hcb : ((lU c).getD a 0).toNat < 256 := UInt8.toNat_lt _
    (try (simp (disch := first | omega | (simp <;> omega) | fail) only [push_cast, ↓reduceIte, Nat.reduceEqDiff, Nat.reduceAdd, Nat.reduceMul, Nat.reduceSub, Nat.reduceLT, Int.reduceToNat, hcs, hpm, hw1, hw2]))
    all_goals (try exact ⟨⟨_, rfl, by omega, by omega⟩, fin _⟩)
  · (try (simp (disch := first | omega | (simp <;> omega) | fail) only [push_cast, ↓reduceIte, Nat.reduceEqDiff, Nat.reduceAdd, Nat.reduceMul, Nat.reduceSub, Nat.reduceLT, Int.reduceToNat, hcs, hpm, hw1, hw2, wrap_and255]))
    all_goals (try exact ⟨⟨_, rfl, (and255 _).1, (and255 _).2⟩, fin _⟩)

def PickR (n m : Int) : Prop := 0 ≤ m ∧ (m < n ∨ m = 0)

theorem c_spec_l1Cur_pick (b : Nat) (c : Option (List UInt8)) (K : Nat) (h : H) (n : Int) (hc : CurI h b c K) (hK : K ≤ 1000000000) (hn : 1 < n) (hn2 : n ≤ 200) :
    Call Tryz.prog 65 [.adr b 0, .int .i64 n] h (fun b' => b' = b) (fun x h' => (∃ m : Int, x = .int .i64 m ∧ 0 ≤ m ∧ m < n) ∧ CurS h h' b c (K + 1)) := by
  refine enter (by kernel_rfl) e65 (by kernel_rfl) rfl fun hok => ?_
  simp only [r65, initEnv_2]
  (try (simp (disch := first | omega | (simp <;> omega) | fail) only [push_cast, ↓reduceIte, Nat.reduceEqDiff, Nat.reduceAdd, Nat.reduceMul, Nat.reduceSub, Nat.reduceLT, Int.reduceToNat]))
  refine (c_spec_l1Cur_next b c K h hc hK).mono (fun x h' hx => ?_) (fun b' _ hb' => Or.inl hb')
  obtain ⟨⟨m, rfl, m0, m1⟩, hs⟩ := hx
  have h1 := Int.emod_nonneg m (show n ≠ 0 by omega)
  have h2 := Int.emod_lt_of_pos m (show 0 < n by omega)
  (try (simp (disch := first | omega | (simp <;> omega) | fail) only [push_cast, ↓reduceIte, Nat.reduceEqDiff, Nat.reduceAdd, Nat.reduceMul, Nat.reduceSub, Nat.reduceLT, Int.reduceToNat]))
  all_goals (try exact ⟨⟨_, rfl, h1, h2⟩, hs⟩)
theorem c_spec_l1Cur_pickAny (b : Nat) (c : Option (List UInt8)) (K : Nat) (h : H) (n : Int) (hc : CurI h b c K) (hK : K ≤ 1000000000) (hn2 : n ≤ 200) :
    Call Tryz.prog 65 [.adr b 0, .int .i64 n] h (fun b' => b' = b) (fun x h' => (∃ m : Int, x = .int .i64 m ∧ PickR n m) ∧ CurS h h' b c (K + 1)) := by
  by_cases hn : 1 < n
  · exact (c_spec_l1Cur_pick b c K h n hc hK hn hn2).mono (fun x h' hx => by
      obtain ⟨⟨m, rfl, m0, m1⟩, hs⟩ := hx
      exact ⟨⟨m, rfl, m0, .inl m1⟩, hs⟩) (fun _ _ h => h)
  · refine enter (by kernel_rfl) e65 (by kernel_rfl) rfl fun hok => ?_
    simp only [r65, initEnv_2]
    have hs : CurS h h b c (K + 1) := ⟨rfl, fun _ _ => rfl, hc.mono (by omega)⟩
    (try (simp (disch := first | omega | (simp <;> omega) | fail) only [push_cast, ↓reduceIte, Nat.reduceEqDiff, Nat.reduceAdd, Nat.reduceMul, Nat.reduceSub, Nat.reduceLT, Int.reduceToNat]))
    all_goals (try exact ⟨⟨_, rfl, Int.le_refl _, .inr rfl⟩, hs⟩)

theorem c_spec_l1Cur_one (b : Nat) (c : Option (List UInt8)) (K : Nat) (h : H) (n : Int) (hc : CurI h b c K) (hK : K ≤ 1000000000) (hn : 1 < n) (hn2 : n ≤ 200) :
    Call Tryz.prog 63 [.adr b 0, .int .i64 n] h (fun b' => b' = b) (fun x h' => (∃ t : Bool, x = .bool t) ∧ CurS h h' b c (K + 1)) := by
  refine enter (by kernel_rfl) e63 (by kernel_rfl) rfl fun hok => ?_
  simp only [r63, initEnv_2]
  (try (simp (disch := first | omega | (simp <;> omega) | fail) only [push_cast, ↓reduceIte, Nat.reduceEqDiff, Nat.reduceAdd, Nat.reduceMul, Nat.reduceSub, Nat.reduceLT, Int.reduceToNat]))
  refine (c_spec_l1Cur_pick b c K h n hc hK hn hn2).mono (fun x h' hx => ?_) (fun b' _ hb' => Or.inl hb')
  obtain ⟨⟨m, rfl, m0, m1⟩, hs⟩ := hx
  by_cases hz : m = 0
  · (try (simp (disch := first | omega | (simp <;> omega) | fail) only [push_cast, ↓reduceIte, Nat.reduceEqDiff, Nat.reduceAdd, Nat.reduceMul, Nat.reduceSub, Nat.reduceLT, Int.reduceToNat, hz]))
    all_goals (try exact ⟨⟨_, rfl⟩, hs⟩)
  · (try (simp (disch := first | omega | (simp <;> omega) | fail) only [push_cast, ↓reduceIte, Nat.reduceEqDiff, Nat.reduceAdd, Nat.reduceMul, Nat.reduceSub, Nat.reduceLT, Int.reduceToNat, hz]))
    all_goals (try exact ⟨⟨_, rfl⟩, hs⟩)

theorem c_spec_l1Cur_key_x (b : Nat) (c : Option (List UInt8)) (K : Nat) (h : H) (hcu : CurI h b c K) (hK : K ≤ 100000000) :
    Call Tryz.prog 94 [.adr b 0] h (fun b' => b' = b) (fun x g => (∃ s : Str, x = .str s ∧ okKey s = true) ∧ CurF h g b c (K + 6)) := by
  refine Call.cur hcu.lt ?_
  refine enter (by kernel_rfl) e94 (by kernel_rfl) rfl fun hok => ?_
  simp only [r94, initEnv_1]
  have hbl := hcu.lt
  (try (simp (disch := first | omega | (simp <;> omega) | fail) only [push_cast, ↓reduceIte, Nat.reduceEqDiff, Nat.reduceAdd, Nat.reduceMul, Nat.reduceSub, Nat.reduceLT, Int.reduceToNat]))
  refine (c_spec_l1Cur_pick b c K h 4 hcu (by omega) (by omega) (by omega)).mono (fun x h1 hx => ?_) (fun b' _ hb' => Or.inl hb')
  obtain ⟨⟨q, rfl, q0, q1⟩, hs⟩ := hx
  obtain ⟨mm, hmm⟩ : ∃ mm : Nat, 1 + q = (mm : Int) := ⟨(1 + q).toNat, by omega⟩
  have hG1 : GrD f8 h h1 b c (K + 1) .nils [] := (GrD.start hcu).step hs.f
  (try (simp (disch := first | omega | (simp <;> omega) | fail) only [push_cast, ↓reduceIte, Nat.reduceEqDiff, Nat.reduceAdd, Nat.reduceMul, Nat.reduceSub, Nat.reduceLT, Int.reduceToNat, hmm]))
  refine T_for mm (fun i e g => ∃ v s, Pins e [(0, .adr b 0), (3, v), (4, .int .i64 ((mm : Int) - i))] ∧ GrD f8 h g b c (K + 1 + i) v s ∧ s.length = i ∧ s.all okByte = true) ?_ ?_
  · refine ⟨.nils, [], ?_, hG1, rfl, rfl⟩
    (try (simp (disch := first | omega | (simp <;> omega) | fail) only [push_cast, ↓reduceIte, Nat.reduceEqDiff, Nat.reduceAdd, Nat.reduceMul, Nat.reduceSub, Nat.reduceLT, Int.reduceToNat]))
    all_goals (try simp)
  have hlet : ∀ j, j < 11 → okByte (([97, 97, 98, 98, 99, 120, 121, 122, 33, 125, 48] : List UInt8).getD j 0) = true := by decide
  have h97 : okByte 97 = true := by decide
  have hmm1 : 1 ≤ mm := by omega
  rintro i e g hi ⟨v, s, hp, hG, hsl, hsa⟩
  refine T_pins hp fun e => ?_
  (try (simp (disch := first | omega | (simp <;> omega) | fail) only [push_cast, ↓reduceIte, Nat.reduceEqDiff, Nat.reduceAdd, Nat.reduceMul, Nat.reduceSub, Nat.reduceLT, Int.reduceToNat]))
  first | refine goC_split (fun hc => ?_) (fun hc => ?_) | refine cnd_split (fun hc => ?_) (fun hc => ?_)
  · (try (simp only [decide_eq_true_eq, decide_eq_false_iff_not, Bool.not_eq_true', Bool.not_eq_false', Bool.and_eq_true, Bool.or_eq_true, Int.not_lt, Int.not_le] at hc)); (try (simp (disch := first | omega | (simp <;> omega) | fail) only [push_cast, ↓reduceIte, Nat.reduceEqDiff, Nat.reduceAdd, Nat.reduceMul, Nat.reduceSub, Nat.reduceLT, Int.reduceToNat]))
    refine (c_spec_l1Cur_pick b c _ g 11 hG.1.2.2 (by omega) (by omega) (by omega)).mono (fun x g2 hx => ?_) (fun b' _ hb' => Or.inl hb')
    obtain ⟨⟨k, rfl, k0, k1⟩, hs2⟩ := hx
    have hG2 := hG.step hs2.f
    (try (simp (disch := first | omega | (simp <;> omega) | fail) only [push_cast, ↓reduceIte, Nat.reduceEqDiff, Nat.reduceAdd, Nat.reduceMul, Nat.reduceSub, Nat.reduceLT, Int.reduceToNat]))
    refine hG2.app (a := ([97, 97, 98, 98, 99, 120, 121, 122, 33, 125, 48] : List UInt8).getD k.toNat 0) (by_ := 1) rfl (fun y hy => Or.inr hy) (by omega) fun v2 g3 hG3 => ?_
    (try (simp (disch := first | omega | (simp <;> omega) | fail) only [push_cast, ↓reduceIte, Nat.reduceEqDiff, Nat.reduceAdd, Nat.reduceMul, Nat.reduceSub, Nat.reduceLT, Int.reduceToNat]))
    have hsa2 : (s ++ [([97, 97, 98, 98, 99, 120, 121, 122, 33, 125, 48] : List UInt8).getD k.toNat 0]).all okByte = true := by
      rw [List.all_append, hsa, List.all_cons, hlet _ (by omega)]
      rfl
    all_goals (try exact ⟨_, _, rfl, hG3, by simp [hsl], hsa2⟩)
    all_goals (try exact ⟨_, _, ⟨rfl, by omega⟩, hG3, by simp [hsl], hsa2⟩)
  · (try (simp only [decide_eq_true_eq, decide_eq_false_iff_not, Bool.not_eq_true', Bool.not_eq_false', Bool.and_eq_true, Bool.or_eq_true, Int.not_lt, Int.not_le] at hc)); (try (simp (disch := first | omega | (simp <;> omega) | fail) only [push_cast, ↓reduceIte, Nat.reduceEqDiff, Nat.reduceAdd, Nat.reduceMul, Nat.reduceSub, Nat.reduceLT, Int.reduceToNat]))
    refine (c_spec_l1Cur_one b c _ g 12 hG.1.2.2 (by omega) (by omega) (by omega)).mono (fun x g2 hx => ?_) (fun b' _ hb' => Or.inl hb')
    obtain ⟨⟨t, rfl⟩, hs2⟩ := hx
    have hG2 := hG.step hs2.f
    have hok1 : ∀ s' : Str, s'.all okByte = true → 1 ≤ s'.length → s'.length ≤ 12 → okKey s' = true := fun s' a1 a2 a3 => by
      unfold okKey
      rw [a1, decide_eq_true (by omega), decide_eq_true (by omega)]
      rfl
    cases t
    · have hcb := hG2.cbs
      (try (simp (disch := first | omega | (simp <;> omega) | fail) only [push_cast, ↓reduceIte, Nat.reduceEqDiff, Nat.reduceAdd, Nat.reduceMul, Nat.reduceSub, Nat.reduceLT, Int.reduceToNat, hcb]))
      all_goals (try exact ⟨_, .free free_str, ⟨_, rfl, hok1 s hsa (by omega) (by omega)⟩, hG2.1.mono (by omega)⟩)
    · (try (simp (disch := first | omega | (simp <;> omega) | fail) only [push_cast, ↓reduceIte, Nat.reduceEqDiff, Nat.reduceAdd, Nat.reduceMul, Nat.reduceSub, Nat.reduceLT, Int.reduceToNat]))
      refine T_for (12 - i) (fun j e g' => ∃ v s', Pins e [(3, v)] ∧ GrD f8 h g' b c (K + 1 + i + 1) v s' ∧ s'.length = i + j ∧ s'.all okByte = true) ?_ ?_
      · refine ⟨v, s, ?_, hG2, by omega, hsa⟩
        (try (simp (disch := first | omega | (simp <;> omega) | fail) only [push_cast, ↓reduceIte, Nat.reduceEqDiff, Nat.reduceAdd, Nat.reduceMul, Nat.reduceSub, Nat.reduceLT, Int.reduceToNat]))
      rintro j e g' hj ⟨v', s', hp, hG', hsl', hsa'⟩
      refine T_pins hp fun e => ?_
      have hlv := hG'.lenA
      (try (simp (disch := first | omega | (simp <;> omega) | fail) only [push_cast, ↓reduceIte, Nat.reduceEqDiff, Nat.reduceAdd, Nat.reduceMul, Nat.reduceSub, Nat.reduceLT, Int.reduceToNat, hlv]))
      first | refine goC_split (fun hd => ?_) (fun hd => ?_) | refine cnd_split (fun hd => ?_) (fun hd => ?_)
      · (try (simp only [decide_eq_true_eq, decide_eq_false_iff_not, Bool.not_eq_true', Bool.not_eq_false', Bool.and_eq_true, Bool.or_eq_true, Int.not_lt, Int.not_le] at hd)); (try (simp (disch := first | omega | (simp <;> omega) | fail) only [push_cast, ↓reduceIte, Nat.reduceEqDiff, Nat.reduceAdd, Nat.reduceMul, Nat.reduceSub, Nat.reduceLT, Int.reduceToNat]))
        refine hG'.app (a := 97) (by_ := 1) rfl (fun y hy => Or.inr hy) (by omega) fun v2 g3 hG3 => ?_
        (try (simp (disch := first | omega | (simp <;> omega) | fail) only [push_cast, ↓reduceIte, Nat.reduceEqDiff, Nat.reduceAdd, Nat.reduceMul, Nat.reduceSub, Nat.reduceLT, Int.reduceToNat]))
        have hsa3 : (s' ++ [97]).all okByte = true := by
          rw [List.all_append, hsa', List.all_cons, h97]
          rfl
        all_goals (try exact ⟨by omega, _, _, rfl, hG3, by simp; omega, hsa3⟩)
        all_goals (try exact ⟨_, _, rfl, hG3, by simp; omega, hsa3⟩)
      · (try (simp only [decide_eq_true_eq, decide_eq_false_iff_not, Bool.not_eq_true', Bool.not_eq_false', Bool.and_eq_true, Bool.or_eq_true, Int.not_lt, Int.not_le] at hd)); (try (simp (disch := first | omega | (simp <;> omega) | fail) only [push_cast, ↓reduceIte, Nat.reduceEqDiff, Nat.reduceAdd, Nat.reduceMul, Nat.reduceSub, Nat.reduceLT, Int.reduceToNat]))
        have hcb := hG'.cbs
        (try (simp (disch := first | omega | (simp <;> omega) | fail) only [push_cast, ↓reduceIte, Nat.reduceEqDiff, Nat.reduceAdd, Nat.reduceMul, Nat.reduceSub, Nat.reduceLT, Int.reduceToNat, hcb]))
        all_goals (try exact ⟨_, .free free_str, ⟨_, rfl, hok1 s' hsa' (by omega) (by omega)⟩, hG'.1.mono (by omega)⟩)
theorem c_spec_l1Cur_key (b : Nat) (c : Option (List UInt8)) (K : Nat) (h : H) (hcu : CurI h b c K) (hK : K ≤ 100000000) :
    Call Tryz.prog 94 [.adr b 0] h (fun b' => b' = b) (fun x g => (∃ s : Str, x = .str s ∧ s.length ≤ 12) ∧ CurF h g b c (K + 6)) :=
  (c_spec_l1Cur_key_x b c K h hcu hK).mono (fun x g hx => by
    obtain ⟨⟨s, h1, h2⟩, h3⟩ := hx
    exact ⟨⟨s, h1, (okKey_len h2).2⟩, h3⟩) (fun _ _ h => h)

theorem c_spec_l1Cur_keys_x (b : Nat) (c : Option (List UInt8)) (K : Nat) (h : H) (most : Nat) (hcu : CurI h b c K) (hK : K ≤ 10000000) (h1m : 1 ≤ most) (hm : most ≤ 40) :
    Call Tryz.prog 62 [.adr b 0, .int .i64 most] h (fun b' => b' = b) (fun x g => ∃ l : List Str, GrD AV.str h g b c (K + 300) x l ∧ l.length ≤ most ∧ l.Pairwise slt ∧ ∀ s ∈ l, okKey s = true) := by
  refine enter (by kernel_rfl) e62 (by kernel_rfl) rfl fun hok => ?_
  simp only [r62, initEnv_2]
  have hbl := hcu.lt
  (try (simp (disch := first | omega | (simp <;> omega) | fail) only [push_cast, ↓reduceIte, Nat.reduceEqDiff, Nat.reduceAdd, Nat.reduceMul, Nat.reduceSub, Nat.reduceLT, Int.reduceToNat]))
  refine (c_spec_l1Cur_pick b c K h ((most : Int) + 1) hcu (by omega) (by omega) (by omega)).mono (fun x h1 hx => ?_) (fun b' _ hb' => Or.inl hb')
  obtain ⟨⟨q, rfl, q0, q1⟩, hs⟩ := hx
  obtain ⟨mm, rfl⟩ : ∃ mm : Nat, q = (mm : Int) := ⟨q.toNat, by omega⟩
  have hG1 : GrD AV.str h h1 b c (K + 1) .nils [] := (GrD.start hcu).step hs.f
  (try (simp (disch := first | omega | (simp <;> omega) | fail) only [push_cast, ↓reduceIte, Nat.reduceEqDiff, Nat.reduceAdd, Nat.reduceMul, Nat.reduceSub, Nat.reduceLT, Int.reduceToNat]))
  refine T_for mm (fun i e g => ∃ v l, Pins e [(0, .adr b 0), (5, v), (6, .int .i64 ((mm : Int) - i))] ∧ GrD AV.str h g b c (K + 1 + 6 * i) v l ∧ l.length ≤ i ∧ l.Pairwise slt ∧ ∀ s ∈ l, okKey s = true) ?_ ?_
  · refine ⟨.nils, [], ?_, hG1, by simp, .nil, by simp⟩
    (try (simp (disch := first | omega | (simp <;> omega) | fail) only [push_cast, ↓reduceIte, Nat.reduceEqDiff, Nat.reduceAdd, Nat.reduceMul, Nat.reduceSub, Nat.reduceLT, Int.reduceToNat]))
    all_goals (try simp)
  rintro i e g hi ⟨v, l, hp, hG, hll, hpw, hka⟩
  refine T_pins hp fun e => ?_
  (try (simp (disch := first | omega | (simp <;> omega) | fail) only [push_cast, ↓reduceIte, Nat.reduceEqDiff, Nat.reduceAdd, Nat.reduceMul, Nat.reduceSub, Nat.reduceLT, Int.reduceToNat]))
  first | refine goC_split (fun hc => ?_) (fun hc => ?_) | refine cnd_split (fun hc => ?_) (fun hc => ?_)
  · (try (simp only [decide_eq_true_eq, decide_eq_false_iff_not, Bool.not_eq_true', Bool.not_eq_false', Bool.and_eq_true, Bool.or_eq_true, Int.not_lt, Int.not_le] at hc)); (try (simp (disch := first | omega | (simp <;> omega) | fail) only [push_cast, ↓reduceIte, Nat.reduceEqDiff, Nat.reduceAdd, Nat.reduceMul, Nat.reduceSub, Nat.reduceLT, Int.reduceToNat]))
    refine (c_spec_l1Cur_key_x b c _ g hG.1.2.2 (by omega)).mono (fun x g2 hx => ?_) (fun b' _ hb' => Or.inl hb')
    obtain ⟨⟨s, rfl, hsl⟩, hF⟩ := hx
    have hG2 := hG.step hF
    obtain ⟨f1, f2, B, f3, f4⟩ := hG2
    (try (simp (disch := first | omega | (simp <;> omega) | fail) only [push_cast, ↓reduceIte, Nat.reduceEqDiff, Nat.reduceAdd, Nat.reduceMul, Nat.reduceSub, Nat.reduceLT, Int.reduceToNat]))
    refine (c_spec_l1PutS_x v l B s g2 f3 (by omega)).mono (fun x g3 hx => ?_) (fun _ _ h => h.elim)
    obtain ⟨y1, y2, l', B', y3, y4, y5⟩ := hx
    have hG3 := GrD.next (v := v) (l := l) f1 f2 f4 y1 y2 y3 y4
    have z1 : l'.length ≤ i + 1 := by
      rw [y5]
      have := putS_len (s := s) (l := l)
      omega
    have z2 : l'.Pairwise slt := by rw [y5]; exact putS_pw hpw
    have z3 : ∀ s ∈ l', okKey s = true := fun x hx => by
      rw [y5] at hx
      rcases putS_mem.1 hx with h5 | h5
      · exact hka x h5
      · rw [h5]; exact hsl
    (try (simp (disch := first | omega | (simp <;> omega) | fail) only [push_cast, ↓reduceIte, Nat.reduceEqDiff, Nat.reduceAdd, Nat.reduceMul, Nat.reduceSub, Nat.reduceLT, Int.reduceToNat]))
    all_goals (try exact ⟨_, _, rfl, hG3, z1, z2, z3⟩)
    all_goals (try exact ⟨_, _, ⟨rfl, by omega⟩, hG3, z1, z2, z3⟩)
    all_goals (try exact ⟨_, hG3, z1, z2, z3⟩)
    all_goals (try exact ⟨by omega, _, hG3, z1, z2, z3⟩)
  · (try (simp only [decide_eq_true_eq, decide_eq_false_iff_not, Bool.not_eq_true', Bool.not_eq_false', Bool.and_eq_true, Bool.or_eq_true, Int.not_lt, Int.not_le] at hc)); (try (simp (disch := first | omega | (simp <;> omega) | fail) only [push_cast, ↓reduceIte, Nat.reduceEqDiff, Nat.reduceAdd, Nat.reduceMul, Nat.reduceSub, Nat.reduceLT, Int.reduceToNat]))
    (try (simp (disch := first | omega | (simp <;> omega) | fail) only [push_cast, ↓reduceIte, Nat.reduceEqDiff, Nat.reduceAdd, Nat.reduceMul, Nat.reduceSub, Nat.reduceLT, Int.reduceToNat]))
    all_goals (try exact ⟨_, hG.mono (by omega), by omega, hpw, hka⟩)
theorem c_spec_l1Cur_keys (b : Nat) (c : Option (List UInt8)) (K : Nat) (h : H) (most : Nat) (hcu : CurI h b c K) (hK : K ≤ 10000000) (h1m : 1 ≤ most) (hm : most ≤ 40) :
    Call Tryz.prog 62 [.adr b 0, .int .i64 most] h (fun b' => b' = b) (fun x g => ∃ l : List Str, GrD AV.str h g b c (K + 300) x l ∧ l.length ≤ most) :=
  (c_spec_l1Cur_keys_x b c K h most hcu hK h1m hm).mono (fun x g hx => by
    obtain ⟨l, h1, h2, _⟩ := hx
    exact ⟨l, h1, h2⟩) (fun _ _ h => h)

theorem c_spec_l1Cur_many_x (b : Nat) (c : Option (List UInt8)) (K : Nat) (h : H) (n : Nat) (hcu : CurI h b c K) (hn : n ≤ 50) :
    Call Tryz.prog 64 [.adr b 0, .int .i64 n] h (fun b' => b' = b) (fun x g => ∃ l : List Str, GrD AV.str h g b c K x l ∧ l.length ≤ n ∧ l.Pairwise slt ∧ ∀ s ∈ l, okKey s = true) := by
  have hmk : ∀ i, i < 50 → okKey [UInt8.ofNat (97 + i / 10), UInt8.ofNat (48 + i % 10)] = true := by decide
  refine enter (by kernel_rfl) e64 (by kernel_rfl) rfl fun hok => ?_
  simp only [r64, initEnv_2]
  have hbl := hcu.lt
  (try (simp (disch := first | omega | (simp <;> omega) | fail) only [push_cast, ↓reduceIte, Nat.reduceEqDiff, Nat.reduceAdd, Nat.reduceMul, Nat.reduceSub, Nat.reduceLT, Int.reduceToNat]))
  refine T_for n (fun i e g => ∃ v l, Pins e [(1, .int .i64 n), (5, v), (6, .int .i64 i)] ∧ GrD AV.str h g b c K v l ∧ l.length ≤ i ∧ l.Pairwise slt ∧ ∀ s ∈ l, okKey s = true) ?_ ?_
  · refine ⟨.nils, [], ?_, GrD.start hcu, by simp, .nil, by simp⟩
    (try (simp (disch := first | omega | (simp <;> omega) | fail) only [push_cast, ↓reduceIte, Nat.reduceEqDiff, Nat.reduceAdd, Nat.reduceMul, Nat.reduceSub, Nat.reduceLT, Int.reduceToNat]))
    all_goals (try simp)
  rintro i e g hi ⟨v, l, hp, hG, hll, hpw, hka⟩
  refine T_pins hp fun e => ?_
  (try (simp (disch := first | omega | (simp <;> omega) | fail) only [push_cast, ↓reduceIte, Nat.reduceEqDiff, Nat.reduceAdd, Nat.reduceMul, Nat.reduceSub, Nat.reduceLT, Int.reduceToNat]))
  first | refine goC_split (fun hc => ?_) (fun hc => ?_) | refine cnd_split (fun hc => ?_) (fun hc => ?_)
  · (try (simp only [decide_eq_true_eq, decide_eq_false_iff_not, Bool.not_eq_true', Bool.not_eq_false', Bool.and_eq_true, Bool.or_eq_true, Int.not_lt, Int.not_le] at hc)); (try (simp (disch := first | omega | (simp <;> omega) | fail) only [push_cast, ↓reduceIte, Nat.reduceEqDiff, Nat.reduceAdd, Nat.reduceMul, Nat.reduceSub, Nat.reduceLT, Int.reduceToNat]))
    (try (simp (disch := first | omega | (simp <;> omega) | fail) only [push_cast, ↓reduceIte, Nat.reduceEqDiff, Nat.reduceAdd, Nat.reduceMul, Nat.reduceSub, Nat.reduceLT, Int.reduceToNat]))
    refine ⟨rfl, ?_⟩
    have e1 : (((UInt8.ofNat (97 + i / 10)).toNat : Nat) : Int) = 97 + (i : Int) / 10 := by simp; omega
    have e2 : (((UInt8.ofNat (48 + i % 10)).toNat : Nat) : Int) = 48 + (i : Int) % 10 := by simp; omega
    have hs2 : S1 (g ++ [some (.cells (((List.replicate 2 (AV.int .u8 0)).set 0 (.int .u8 (97 + (i : Int) / 10))).set 1 (.int .u8 (48 + (i : Int) % 10))))]) 1 (.sl g.length 0 1 2 2) 2 (u8s [UInt8.ofNat (97 + i / 10), UInt8.ofNat (48 + i % 10)]) [g.length] :=
      ⟨rfl, .inr ⟨g.length, rfl, rfl, by
        rw [cells_h0]
        simp only [u8s, List.map_cons, List.map_nil, e1, e2]
        rfl⟩⟩
    have hcb := cbs_S1 hs2
    obtain ⟨f1, f2, B, f3, f4⟩ := hG.more (l2 := [some (.cells (((List.replicate 2 (AV.int .u8 0)).set 0 (.int .u8 (97 + (i : Int) / 10))).set 1 (.int .u8 (48 + (i : Int) % 10))))])
    (try (simp (disch := first | omega | (simp <;> omega) | fail) only [push_cast, ↓reduceIte, Nat.reduceEqDiff, Nat.reduceAdd, Nat.reduceMul, Nat.reduceSub, Nat.reduceLT, Int.reduceToNat, hcb]))
    refine (c_spec_l1PutS_x v l B [UInt8.ofNat (97 + i / 10), UInt8.ofNat (48 + i % 10)] _ f3 (by omega)).mono (fun x g3 hx => ?_) (fun _ _ h => h.elim)
    obtain ⟨y1, y2, l', B', y3, y4, y5⟩ := hx
    have hG3 := GrD.next (v := v) (l := l) f1 f2 f4 y1 y2 y3 y4
    have z1 : l'.length ≤ i + 1 := by
      rw [y5]
      have := putS_len (s := [UInt8.ofNat (97 + i / 10), UInt8.ofNat (48 + i % 10)]) (l := l)
      omega
    have z2 : l'.Pairwise slt := by rw [y5]; exact putS_pw hpw
    have z3 : ∀ s ∈ l', okKey s = true := fun x hx => by
      rw [y5] at hx
      rcases putS_mem.1 hx with h5 | h5
      · exact hka x h5
      · rw [h5]; exact hmk i (by omega)
    (try (simp (disch := first | omega | (simp <;> omega) | fail) only [push_cast, ↓reduceIte, Nat.reduceEqDiff, Nat.reduceAdd, Nat.reduceMul, Nat.reduceSub, Nat.reduceLT, Int.reduceToNat]))
    all_goals (try exact ⟨_, _, rfl, hG3, z1, z2, z3⟩)
    all_goals (try exact ⟨_, hG3, z1, z2, z3⟩)
  · (try (simp only [decide_eq_true_eq, decide_eq_false_iff_not, Bool.not_eq_true', Bool.not_eq_false', Bool.and_eq_true, Bool.or_eq_true, Int.not_lt, Int.not_le] at hc)); (try (simp (disch := first | omega | (simp <;> omega) | fail) only [push_cast, ↓reduceIte, Nat.reduceEqDiff, Nat.reduceAdd, Nat.reduceMul, Nat.reduceSub, Nat.reduceLT, Int.reduceToNat]))
    (try (simp (disch := first | omega | (simp <;> omega) | fail) only [push_cast, ↓reduceIte, Nat.reduceEqDiff, Nat.reduceAdd, Nat.reduceMul, Nat.reduceSub, Nat.reduceLT, Int.reduceToNat]))
    all_goals (try exact ⟨_, hG, by omega, hpw, hka⟩)
theorem c_spec_l1Cur_many (b : Nat) (c : Option (List UInt8)) (K : Nat) (h : H) (n : Nat) (hcu : CurI h b c K) (hn : n ≤ 50) :
    Call Tryz.prog 64 [.adr b 0, .int .i64 n] h (fun b' => b' = b) (fun x g => ∃ l : List Str, GrD AV.str h g b c K x l ∧ l.length ≤ n) :=
  (c_spec_l1Cur_many_x b c K h n hcu hn).mono (fun x g hx => by
    obtain ⟨l, h1, h2, _⟩ := hx
    exact ⟨l, h1, h2⟩) (fun _ _ h => h)

theorem GsI.owO {n0 n : Nat} {h' : H} {v : AV} {L : List Bool} (hs : GsI AV.bool n0 h' v L) (hn : n ≤ n0) : ∃ o, Ow h' [v] [eO o] (fun c => n ≤ c) ∧ lO o = L := by
  obtain ⟨_, B, hs, hB⟩ := hs
  rcases hs.2 with ⟨rfl, h0, _⟩ | ⟨b, rfl, hb, hcb⟩
  · exact ⟨none, .atom rfl .nil, (List.eq_nil_of_length_eq_zero h0).symm⟩
  · exact ⟨some L, ow_map (f := AV.bool) (fun _ => rfl) hcb rfl (by have := hB b (by rw [hb]; simp); omega), rfl⟩
theorem c_spec_biList_o (t : Bt) (h1 : okBt t = true) : FnO Tryz.prog 66 [eB t] (fun v => ∃ o, v = eO o ∧ lO o = btL t) := by
  intro h
  refine enter (by kernel_rfl) e66 (by kernel_rfl) rfl fun hok => ?_
  simp only [r66, initEnv_1]
  obtain ⟨w1, w2, w3, w4⟩ := okBt_num h1
  have hat : ∀ i, atB t i = (numW (lI t.words)).testBit i := fun _ => rfl
  have hbt : btL t = (List.range t.size.toNat).map (atB t) := rfl
  generalize btL t = R at hbt
  obtain ⟨sz, ws⟩ := t
  simp only at w1 w2 w3 w4 hat hbt
  obtain ⟨n, rfl⟩ : ∃ n : Nat, sz = (n : Int) := ⟨sz.toNat, by omega⟩
  rw [Int.toNat_natCast] at hbt
  (try (simp (disch := first | omega | (simp <;> omega) | fail) only [push_cast, ↓reduceIte, Nat.reduceEqDiff, Nat.reduceAdd, Nat.reduceMul, Nat.reduceSub, Nat.reduceLT, Int.reduceToNat]))
  refine T_for n (fun k e h' => ∃ v, Pins e [(1, .adr h.length 0), (3, v), (4, .int .i64 k)] ∧ (GsI AV.bool (h.length + 1) h' v ((List.range k).map (atB ⟨(n : Int), ws⟩)) ∧ H.cells h' h.length = some [.int .i64 n, eI ws])) ?_ ?_
  · refine ⟨.nils, ?_⟩
    (try (simp (disch := first | omega | (simp <;> omega) | fail) only [push_cast, ↓reduceIte, Nat.reduceEqDiff, Nat.reduceAdd, Nat.reduceMul, Nat.reduceSub, Nat.reduceLT, Int.reduceToNat]))
    all_goals (try exact ⟨GsI.nil (by simp), by rw [cells_h0]; rfl⟩)
    all_goals (try exact GsI.nil (by simp))
  rintro k e h' hk ⟨v, hp, hs, hbx⟩
  refine T_pins hp fun e => ?_
  (try (simp (disch := first | omega | (simp <;> omega) | fail) only [push_cast, ↓reduceIte, Nat.reduceEqDiff, Nat.reduceAdd, Nat.reduceMul, Nat.reduceSub, Nat.reduceLT, Int.reduceToNat, hbx]))
  first | refine goC_split (fun hc => ?_) (fun hc => ?_) | refine cnd_split (fun hc => ?_) (fun hc => ?_)
  · (try (simp only [decide_eq_true_eq, decide_eq_false_iff_not, Bool.not_eq_true', Bool.not_eq_false', Bool.and_eq_true, Bool.or_eq_true, Int.not_lt, Int.not_le] at hc)); (try (simp (disch := first | omega | (simp <;> omega) | fail) only [push_cast, ↓reduceIte, Nat.reduceEqDiff, Nat.reduceAdd, Nat.reduceMul, Nat.reduceSub, Nat.reduceLT, Int.reduceToNat]))
    have hk2 : k < n := by omega
    have hll : ((List.range k).map (atB ⟨(n : Int), ws⟩)).length = k := by simp
    (try (simp (disch := first | omega | (simp <;> omega) | fail) only [push_cast, ↓reduceIte, Nat.reduceEqDiff, Nat.reduceAdd, Nat.reduceMul, Nat.reduceSub, Nat.reduceLT, Int.reduceToNat, hbx]))
    refine (c_spec_biAt ⟨n, ws⟩ (numW (lI ws)) (lI ws).length k w1 (by omega) (by omega)).call ?_
    rw [← hat k]
    (try (simp (disch := first | omega | (simp <;> omega) | fail) only [push_cast, ↓reduceIte, Nat.reduceEqDiff, Nat.reduceAdd, Nat.reduceMul, Nat.reduceSub, Nat.reduceLT, Int.reduceToNat]))
    refine hs.app (by_ := 1) (fun c hc => Or.inr (by omega)) (by omega) (by decide) fun v' h'' q1 q2 q3 => ?_
    have e1 : (List.range k).map (atB ⟨(n : Int), ws⟩) ++ [atB ⟨(n : Int), ws⟩ k] = (List.range (k + 1)).map (atB ⟨(n : Int), ws⟩) := by
      rw [List.range_succ, List.map_append]
      rfl
    rw [e1] at q1
    have hbx2 := cells_keep (q2 h.length (by omega)) hbx
    (try (simp (disch := first | omega | (simp <;> omega) | fail) only [push_cast, ↓reduceIte, Nat.reduceEqDiff, Nat.reduceAdd, Nat.reduceMul, Nat.reduceSub, Nat.reduceLT, Int.reduceToNat]))
    all_goals (try exact ⟨_, rfl, q1, hbx2⟩)
  · (try (simp only [decide_eq_true_eq, decide_eq_false_iff_not, Bool.not_eq_true', Bool.not_eq_false', Bool.and_eq_true, Bool.or_eq_true, Int.not_lt, Int.not_le] at hc)); (try (simp (disch := first | omega | (simp <;> omega) | fail) only [push_cast, ↓reduceIte, Nat.reduceEqDiff, Nat.reduceAdd, Nat.reduceMul, Nat.reduceSub, Nat.reduceLT, Int.reduceToNat]))
    have hke : k = n := by omega
    subst hke
    obtain ⟨o, w, l4⟩ := hs.owO (n := h.length) (by omega)
    have hfin : ∃ t', Ow h' [v] [t'] (fun c => h.length ≤ c) ∧ ∃ o, t' = eO o ∧ lO o = R := ⟨_, w, o, rfl, by rw [l4, hbt]⟩
    (try (simp (disch := first | omega | (simp <;> omega) | fail) only [push_cast, ↓reduceIte, Nat.reduceEqDiff, Nat.reduceAdd, Nat.reduceMul, Nat.reduceSub, Nat.reduceLT, Int.reduceToNat]))
    all_goals (try exact hfin)

theorem c_spec_l1Cur_pick2T (b : Nat) (c : Option (List UInt8)) (K : Nat) (h : H) (n : Int) (hcu : CurI h b c K) (hK : K ≤ 100000000) (hn : 200 < n) (hn2 : n ≤ 100000) :
    Call Tryz.prog 65 [.adr b 0, .int .i64 n] h (fun b' => b' = b) (fun x h' => (∃ m : Int, x = .int .i64 m ∧ 0 ≤ m ∧ m < n) ∧ CurS h h' b c (K + 2)) := by
  refine enter (by kernel_rfl) e65 (by kernel_rfl) rfl fun hok => ?_
  simp only [r65, initEnv_2]
  (try (simp (disch := first | omega | (simp <;> omega) | fail) only [push_cast, ↓reduceIte, Nat.reduceEqDiff, Nat.reduceAdd, Nat.reduceMul, Nat.reduceSub, Nat.reduceLT, Int.reduceToNat]))
  refine (c_spec_l1Cur_next b c K h hcu (by omega)).mono (fun x h' hx => ?_) (fun b' _ hb' => Or.inl hb')
  obtain ⟨⟨m, rfl, m0, m1⟩, hs⟩ := hx
  (try (simp (disch := first | omega | (simp <;> omega) | fail) only [push_cast, ↓reduceIte, Nat.reduceEqDiff, Nat.reduceAdd, Nat.reduceMul, Nat.reduceSub, Nat.reduceLT, Int.reduceToNat]))
  repeat' (with_reducible refine And.intro ?_ ?_)
  all_goals
    refine (c_spec_l1Cur_next b c (K + 1) h' hs.2.2 (by omega)).mono (fun x h2 hx => ?_) (fun b' _ hb' => Or.inl hb')
    obtain ⟨⟨m2, rfl, m20, m21⟩, hs2⟩ := hx
    have hs3 : CurS h h2 b c (K + 2) := ⟨hs2.1.trans hs.1, fun k hk => (hs2.2.1 k hk).trans (hs.2.1 k hk), hs2.2.2⟩
    have h1 := Int.emod_nonneg (m * 256 + m2) (show n ≠ 0 by omega)
    have h2 := Int.emod_lt_of_pos (m * 256 + m2) (show 0 < n by omega)
    (try (simp (disch := first | omega | (simp <;> omega) | fail) only [push_cast, ↓reduceIte, Nat.reduceEqDiff, Nat.reduceAdd, Nat.reduceMul, Nat.reduceSub, Nat.reduceLT, Int.reduceToNat]))
    all_goals (try exact ⟨⟨_, rfl, h1, h2⟩, hs3⟩)
theorem c_spec_l1Cur_pickA (b : Nat) (c : Option (List UInt8)) (K : Nat) (h : H) (n : Int) (hcu : CurI h b c K) (hK : K ≤ 10000000) (hn2 : n ≤ 100000) :
    Call Tryz.prog 65 [.adr b 0, .int .i64 n] h (fun b' => b' = b) (fun x h' => (∃ m : Int, x = .int .i64 m ∧ 0 ≤ m ∧ m ≤ 100000 ∧ (1 ≤ n → m < n)) ∧ CurF h h' b c (K + 2)) := by
  by_cases h1 : n ≤ 1
  · refine enter (by kernel_rfl) e65 (by kernel_rfl) rfl fun hok => ?_
    simp only [r65, initEnv_2]
    have h1' : (1 < n) = False := by simp; omega
    have hF := (CurF.refl hcu).mono (show K ≤ K + 2 by omega)
    (try (simp (disch := first | omega | (simp <;> omega) | fail) only [push_cast, ↓reduceIte, Nat.reduceEqDiff, Nat.reduceAdd, Nat.reduceMul, Nat.reduceSub, Nat.reduceLT, Int.reduceToNat, h1']))
    all_goals (try exact ⟨⟨_, rfl, by omega, by omega, fun h5 => by omega⟩, hF⟩)
  · by_cases h2 : n ≤ 200
    · exact (c_spec_l1Cur_pick b c K h n hcu (by omega) (by omega) h2).mono (fun x h' hx => by
        obtain ⟨⟨m, rfl, m0, m1⟩, hs⟩ := hx
        exact ⟨⟨m, rfl, m0, by omega, fun _ => m1⟩, hs.f.mono (by omega)⟩) (fun _ _ h => h)
    · exact (c_spec_l1Cur_pick2T b c K h n hcu (by omega) (by omega) hn2).mono (fun x h' hx => by
        obtain ⟨⟨m, rfl, m0, m1⟩, hs⟩ := hx
        exact ⟨⟨m, rfl, m0, by omega, fun _ => m1⟩, hs.f⟩) (fun _ _ h => h)
theorem c_spec_l1Cur_spoilt (b : Nat) (c : Option (List UInt8)) (K : Nat) (h : H) (t w : Str) (hcu : CurI h b c K) (hK : K ≤ 1000000) (hw : 1 < w.length) (hw2 : w.length ≤ 100) (ht : t.length ≤ 5000) :
    Call Tryz.prog 67 [.adr b 0, .str t, .str w] h (fun b' => b' = b) (fun x g => (∃ s : Str, x = .str s) ∧ CurF h g b c (K + 20)) := by
  refine Call.cur hcu.lt ?_
  refine enter (by kernel_rfl) e67 (by kernel_rfl) rfl fun hok => ?_
  simp only [r67, initEnv_3]
  have hbl := hcu.lt
  generalize hB : RCode.block 2 _ = B2
  (try (simp (disch := first | omega | (simp <;> omega) | fail) only [push_cast, ↓reduceIte, Nat.reduceEqDiff, Nat.reduceAdd, Nat.reduceMul, Nat.reduceSub, Nat.reduceLT, Int.reduceToNat]))
  refine (c_spec_l1Cur_pick b c K h 2 hcu (by omega) (by omega) (by omega)).mono (fun x h1 hx => ?_) (fun b' _ hb' => Or.inl hb')
  obtain ⟨⟨q, rfl, q0, q1⟩, hs⟩ := hx
  obtain ⟨mm, hmm⟩ : ∃ mm : Nat, 1 + q = (mm : Int) := ⟨(1 + q).toNat, by omega⟩
  have hF1 := hs.f
  have hcat : ∀ x y : Str, x.length ≤ 100000 → y.length ≤ 100000 → abin .add (.str x) (.str y) = some (.str (x ++ y)) := fun x y h1 h2 => abin_s_add (by omega)
  (try (simp (disch := first | omega | (simp <;> omega) | fail) only [push_cast, ↓reduceIte, Nat.reduceEqDiff, Nat.reduceAdd, Nat.reduceMul, Nat.reduceSub, Nat.reduceLT, Int.reduceToNat, hmm]))
  refine T_for mm (fun i e g => ∃ s : Str, Pins e [(0, .adr b 0), (1, .str s), (2, .str w), (7, .int .i64 ((mm : Int) - i))] ∧ CurF h g b c (K + 1 + 6 * i) ∧ s.length ≤ t.length + i) ?_ ?_
  · refine ⟨t, ?_, hF1, by omega⟩
    (try (simp (disch := first | omega | (simp <;> omega) | fail) only [push_cast, ↓reduceIte, Nat.reduceEqDiff, Nat.reduceAdd, Nat.reduceMul, Nat.reduceSub, Nat.reduceLT, Int.reduceToNat]))
    all_goals (try simp)
  rintro i e g hi ⟨s, hp, hF, hsl⟩
  refine T_pins hp fun e => ?_
  (try (simp (disch := first | omega | (simp <;> omega) | fail) only [push_cast, ↓reduceIte, Nat.reduceEqDiff, Nat.reduceAdd, Nat.reduceMul, Nat.reduceSub, Nat.reduceLT, Int.reduceToNat]))
  by_cases hi2 : i < mm
  · have hi3 : (0 < (mm : Int) - i) = True := by simp; omega
    by_cases hs0 : 0 < s.length
    · have hs0' : (0 < (s.length : Int)) = True := eq_true (by omega)
      (try (simp (disch := first | omega | (simp <;> omega) | fail) only [push_cast, ↓reduceIte, Nat.reduceEqDiff, Nat.reduceAdd, Nat.reduceMul, Nat.reduceSub, Nat.reduceLT, Int.reduceToNat, hi3, hs0']))
      refine (c_spec_l1Cur_pickA b c _ g s.length hF.2.2 (by omega) (by omega)).mono (fun x g2 hx => ?_) (fun b' _ hb' => Or.inl hb')
      obtain ⟨⟨m, rfl, m0, _, m1⟩, hF2⟩ := hx
      obtain ⟨p, rfl⟩ : ∃ p : Nat, m = (p : Int) := ⟨m.toNat, by omega⟩
      have hp1 := m1 (by omega)
      (try (simp (disch := first | omega | (simp <;> omega) | fail) only [push_cast, ↓reduceIte, Nat.reduceEqDiff, Nat.reduceAdd, Nat.reduceMul, Nat.reduceSub, Nat.reduceLT, Int.reduceToNat]))
      refine (c_spec_l1Cur_pick b c _ g2 w.length hF2.2.2 (by omega) (by omega) (by omega)).mono (fun x g3 hx => ?_) (fun b' _ hb' => Or.inl hb')
      obtain ⟨⟨k, rfl, k0, k1⟩, hs3⟩ := hx
      obtain ⟨k, rfl⟩ : ∃ p : Nat, k = (p : Int) := ⟨k.toNat, by omega⟩
      have hgw : sidxA (.str w) (.int .i64 k) = some (.int .u8 ((w.getD k 0).toNat : Int)) := sidxA_str (by omega) (by omega)
      have hcb : ∀ (n : Int), cbsA (g3 ++ [some (.cells [.int .u8 n])]) (.sl g3.length 0 1 1 1) = some (.str [UInt8.ofNat n.toNat]) := fun n => cbsA_1
      have hF3 := (hF.trans hF2).trans hs3.f
      (try (simp (disch := first | omega | (simp <;> omega) | fail) only [push_cast, ↓reduceIte, Nat.reduceEqDiff, Nat.reduceAdd, Nat.reduceMul, Nat.reduceSub, Nat.reduceLT, Int.reduceToNat, hgw, hcb]))
      have hF4 := hF3.more (l := [some (.cells [.int .u8 ((w.getD k 0).toNat : Int)])])
      refine (c_spec_l1Cur_pick b c _ _ 3 hF4.2.2 (by omega) (by omega) (by omega)).mono (fun x g5 hx => ?_) (fun b' _ hb' => Or.inl hb')
      obtain ⟨⟨r, rfl, r0, r1⟩, hs5⟩ := hx
      have hF5 := (hF4.trans hs5.f).mono (K' := K + 1 + 6 * (i + 1)) (by omega)
      obtain ⟨u, hu⟩ : ∃ u, u = [UInt8.ofNat (w.getD k 0).toNat] := ⟨_, rfl⟩
      have hul : u.length = 1 := by rw [hu]; rfl
      (try (simp (disch := first | omega | (simp <;> omega) | fail) only [push_cast, ↓reduceIte, Nat.reduceEqDiff, Nat.reduceAdd, Nat.reduceMul, Nat.reduceSub, Nat.reduceLT, Int.reduceToNat, ← hu]))
      rw [← hB]
      have hc1 := hcat (List.take (p - 0) (List.drop 0 s)) u (by simp; omega) (by omega)
      have hc2 := hcat (List.take (p - 0) (List.drop 0 s) ++ u) (List.take (s.length - p) (List.drop p s)) (by simp; omega) (by simp; omega)
      have hc3 := hcat (List.take (p - 0) (List.drop 0 s) ++ u) (List.take (s.length - (p + 1)) (List.drop (p + 1) s)) (by simp; omega) (by simp; omega)
      have hc4 := hcat (List.take (p - 0) (List.drop 0 s)) (List.take (s.length - (p + 1)) (List.drop (p + 1) s)) (by simp; omega) (by simp; omega)
      by_cases z0 : r = 0
      · (try (simp (disch := first | omega | (simp <;> omega) | fail) only [push_cast, ↓reduceIte, Nat.reduceEqDiff, Nat.reduceAdd, Nat.reduceMul, Nat.reduceSub, Nat.reduceLT, Int.reduceToNat, z0, hc1, hc2]))
        all_goals (try exact ⟨_, rfl, hF5, by simp; omega⟩)
        done
      by_cases z1 : r = 1
      · (try (simp (disch := first | omega | (simp <;> omega) | fail) only [push_cast, ↓reduceIte, Nat.reduceEqDiff, Nat.reduceAdd, Nat.reduceMul, Nat.reduceSub, Nat.reduceLT, Int.reduceToNat, z1, hc1, hc3]))
        all_goals (try exact ⟨_, rfl, hF5, by simp; omega⟩)
        done
      · (try (simp (disch := first | omega | (simp <;> omega) | fail) only [push_cast, ↓reduceIte, Nat.reduceEqDiff, Nat.reduceAdd, Nat.reduceMul, Nat.reduceSub, Nat.reduceLT, Int.reduceToNat, z0, z1, hc4]))
        all_goals (try exact ⟨_, rfl, hF5, by simp; omega⟩)
        done
    · have hs0' : (0 < (s.length : Int)) = False := eq_false (by omega)
      (try (simp (disch := first | omega | (simp <;> omega) | fail) only [push_cast, ↓reduceIte, Nat.reduceEqDiff, Nat.reduceAdd, Nat.reduceMul, Nat.reduceSub, Nat.reduceLT, Int.reduceToNat, hi3, hs0']))
      all_goals (try exact ⟨_, .free free_str, ⟨_, rfl⟩, hF.mono (by omega)⟩)
  · have hi3 : (0 < (mm : Int) - i) = False := by simp; omega
    (try (simp (disch := first | omega | (simp <;> omega) | fail) only [push_cast, ↓reduceIte, Nat.reduceEqDiff, Nat.reduceAdd, Nat.reduceMul, Nat.reduceSub, Nat.reduceLT, Int.reduceToNat, hi3]))
    all_goals (try exact ⟨_, .free free_str, ⟨_, rfl⟩, hF.mono (by omega)⟩)

end Go.Proofs.YtakjemikampncaaGreatDoor.M
