/-
  What the functions return.
-/
import Derived.Test.YtbkcenkfecndjaaGreatDoorFks
import Derived.Test.YtbkcenkfecndjaaGreatDoorCkr
namespace Go.Proofs.YtbkcenkfecndjaaGreatDoor.M
open Go Go.RowKit
set_option linter.unusedVariables false
set_option linter.unusedSimpArgs false
set_option maxRecDepth 4000

theorem c_spec_l1Cur_next (b : Nat) (c : Option (List UInt8)) (K : Nat) (h : H) (hc : CurI h b c K) (hK : K ≤ 1000000000) :
    Call Tryz.prog 75 [.adr b 0] h (fun b' => b' = b) (fun x h' => (∃ n : Int, x = .int .i64 n ∧ 0 ≤ n ∧ n ≤ 255) ∧ CurS h h' b c (K + 1)) := by
  refine enter (by kernel_rfl) e75 (by kernel_rfl) rfl fun hok => ?_
  simp only [r75, initEnv_1]
  obtain ⟨a, sd, hcs, ha⟩ := hc
  have hlt := cells_lt hcs
  have hpm : (b = b) = True := by simp
  have hw1 := fun cs => cells_wr hlt cs
  have hw2 := fun cs cs' => wr_wr (h := h) (b := b) cs cs'
  have fin : ∀ (sd' : Int), CurS h (wr h b [eU c, .int .i64 ((a : Int) + 1), .int .u64 sd']) b c (K + 1) := fun sd' => by
    refine ⟨by simp [wr], fun b' hb' => ?_, a + 1, sd', ?_, by omega⟩
    · unfold wr
      rw [List.getElem?_set_ne (Ne.symm hb')]
    · rw [cells_wr hlt]
      simp
  by_cases hlt2 : a < (lU c).length
  · have hcb : ((lU c).getD a 0).toNat < 256 := UInt8.toNat_lt _
    (try (simp (disch := first | omega | (simp <;> omega) | fail) only [push_cast, ↓reduceIte, Nat.reduceEqDiff, Nat.reduceAdd, Nat.reduceMul, Nat.reduceSub, Nat.reduceLT, Int.reduceToNat, hcs, hpm, hw1, hw2]))
    all_goals (try exact ⟨⟨_, rfl, by omega, by omega⟩, fin _⟩)
  · (try (simp (disch := first | omega | (simp <;> omega) | fail) only [push_cast, ↓reduceIte, Nat.reduceEqDiff, Nat.reduceAdd, Nat.reduceMul, Nat.reduceSub, Nat.reduceLT, Int.reduceToNat, hcs, hpm, hw1, hw2, wrap_and255]))
    all_goals (try exact ⟨⟨_, rfl, (and255 _).1, (and255 _).2⟩, fin _⟩)

def PickR (n m : Int) : Prop := 0 ≤ m ∧ (m < n ∨ m = 0)

theorem c_spec_l1Cur_pick (b : Nat) (c : Option (List UInt8)) (K : Nat) (h : H) (n : Int) (hc : CurI h b c K) (hK : K ≤ 1000000000) (hn : 1 < n) (hn2 : n ≤ 200) :
    Call Tryz.prog 35 [.adr b 0, .int .i64 n] h (fun b' => b' = b) (fun x h' => (∃ m : Int, x = .int .i64 m ∧ 0 ≤ m ∧ m < n) ∧ CurS h h' b c (K + 1)) := by
  refine enter (by kernel_rfl) e35 (by kernel_rfl) rfl fun hok => ?_
  simp only [r35, initEnv_2]
  (try (simp (disch := first | omega | (simp <;> omega) | fail) only [push_cast, ↓reduceIte, Nat.reduceEqDiff, Nat.reduceAdd, Nat.reduceMul, Nat.reduceSub, Nat.reduceLT, Int.reduceToNat]))
  refine (c_spec_l1Cur_next b c K h hc hK).mono (fun x h' hx => ?_) (fun b' _ hb' => Or.inl hb')
  obtain ⟨⟨m, rfl, m0, m1⟩, hs⟩ := hx
  have h1 := Int.emod_nonneg m (show n ≠ 0 by omega)
  have h2 := Int.emod_lt_of_pos m (show 0 < n by omega)
  (try (simp (disch := first | omega | (simp <;> omega) | fail) only [push_cast, ↓reduceIte, Nat.reduceEqDiff, Nat.reduceAdd, Nat.reduceMul, Nat.reduceSub, Nat.reduceLT, Int.reduceToNat]))
  all_goals (try exact ⟨⟨_, rfl, h1, h2⟩, hs⟩)
theorem c_spec_l1Cur_pickAny (b : Nat) (c : Option (List UInt8)) (K : Nat) (h : H) (n : Int) (hc : CurI h b c K) (hK : K ≤ 1000000000) (hn2 : n ≤ 200) :
    Call Tryz.prog 35 [.adr b 0, .int .i64 n] h (fun b' => b' = b) (fun x h' => (∃ m : Int, x = .int .i64 m ∧ PickR n m) ∧ CurS h h' b c (K + 1)) := by
  by_cases hn : 1 < n
  · exact (c_spec_l1Cur_pick b c K h n hc hK hn hn2).mono (fun x h' hx => by
      obtain ⟨⟨m, rfl, m0, m1⟩, hs⟩ := hx
      exact ⟨⟨m, rfl, m0, .inl m1⟩, hs⟩) (fun _ _ h => h)
  · refine enter (by kernel_rfl) e35 (by kernel_rfl) rfl fun hok => ?_
    simp only [r35, initEnv_2]
    have hs : CurS h h b c (K + 1) := ⟨rfl, fun _ _ => rfl, hc.mono (by omega)⟩
    (try (simp (disch := first | omega | (simp <;> omega) | fail) only [push_cast, ↓reduceIte, Nat.reduceEqDiff, Nat.reduceAdd, Nat.reduceMul, Nat.reduceSub, Nat.reduceLT, Int.reduceToNat]))
    all_goals (try exact ⟨⟨_, rfl, Int.le_refl _, .inr rfl⟩, hs⟩)

theorem c_spec_l1Cur_one (b : Nat) (c : Option (List UInt8)) (K : Nat) (h : H) (n : Int) (hc : CurI h b c K) (hK : K ≤ 1000000000) (hn : 1 < n) (hn2 : n ≤ 200) :
    Call Tryz.prog 41 [.adr b 0, .int .i64 n] h (fun b' => b' = b) (fun x h' => (∃ t : Bool, x = .bool t) ∧ CurS h h' b c (K + 1)) := by
  refine enter (by kernel_rfl) e41 (by kernel_rfl) rfl fun hok => ?_
  simp only [r41, initEnv_2]
  (try (simp (disch := first | omega | (simp <;> omega) | fail) only [push_cast, ↓reduceIte, Nat.reduceEqDiff, Nat.reduceAdd, Nat.reduceMul, Nat.reduceSub, Nat.reduceLT, Int.reduceToNat]))
  refine (c_spec_l1Cur_pick b c K h n hc hK hn hn2).mono (fun x h' hx => ?_) (fun b' _ hb' => Or.inl hb')
  obtain ⟨⟨m, rfl, m0, m1⟩, hs⟩ := hx
  by_cases hz : m = 0
  · (try (simp (disch := first | omega | (simp <;> omega) | fail) only [push_cast, ↓reduceIte, Nat.reduceEqDiff, Nat.reduceAdd, Nat.reduceMul, Nat.reduceSub, Nat.reduceLT, Int.reduceToNat, hz]))
    all_goals (try exact ⟨⟨_, rfl⟩, hs⟩)
  · (try (simp (disch := first | omega | (simp <;> omega) | fail) only [push_cast, ↓reduceIte, Nat.reduceEqDiff, Nat.reduceAdd, Nat.reduceMul, Nat.reduceSub, Nat.reduceLT, Int.reduceToNat, hz]))
    all_goals (try exact ⟨⟨_, rfl⟩, hs⟩)

theorem c_spec_l1Cur_key_x (b : Nat) (c : Option (List UInt8)) (K : Nat) (h : H) (hcu : CurI h b c K) (hK : K ≤ 100000000) :
    Call Tryz.prog 80 [.adr b 0] h (fun b' => b' = b) (fun x g => (∃ s : Str, x = .str s ∧ okKey s = true) ∧ CurF h g b c (K + 6)) := by
  refine Call.cur hcu.lt ?_
  refine enter (by kernel_rfl) e80 (by kernel_rfl) rfl fun hok => ?_
  simp only [r80, initEnv_1]
  have hbl := hcu.lt
  (try (simp (disch := first | omega | (simp <;> omega) | fail) only [push_cast, ↓reduceIte, Nat.reduceEqDiff, Nat.reduceAdd, Nat.reduceMul, Nat.reduceSub, Nat.reduceLT, Int.reduceToNat]))
  refine (c_spec_l1Cur_pick b c K h 4 hcu (by omega) (by omega) (by omega)).mono (fun x h1 hx => ?_) (fun b' _ hb' => Or.inl hb')
  obtain ⟨⟨q, rfl, q0, q1⟩, hs⟩ := hx
  obtain ⟨mm, hmm⟩ : ∃ mm : Nat, 1 + q = (mm : Int) := ⟨(1 + q).toNat, by omega⟩
  have hG1 : GrD f8 h h1 b c (K + 1) .nils [] := (GrD.start hcu).step hs.f
  (try (simp (disch := first | omega | (simp <;> omega) | fail) only [push_cast, ↓reduceIte, Nat.reduceEqDiff, Nat.reduceAdd, Nat.reduceMul, Nat.reduceSub, Nat.reduceLT, Int.reduceToNat, hmm]))
  refine T_for mm (fun i e g => ∃ v s, Pins e [(0, .adr b 0), (3, v), (4, .int .i64 ((mm : Int) - i))] ∧ GrD f8 h g b c (K + 1 + i) v s ∧ s.length = i ∧ s.all okByte = true) ?_ ?_
  · refine ⟨.nils, [], ?_, hG1, rfl, rfl⟩
    (try (simp (disch := first | omega | (simp <;> omega) | fail) only [push_cast, ↓reduceIte, Nat.reduceEqDiff, Nat.reduceAdd, Nat.reduceMul, Nat.reduceSub, Nat.reduceLT, Int.reduceToNat]))
    all_goals (try simp)
  have hlet : ∀ j, j < 11 → okByte (([97, 97, 98, 98, 99, 120, 121, 122, 33, 125, 48] : List UInt8).getD j 0) = true := by decide
  have h97 : okByte 97 = true := by decide
  have hmm1 : 1 ≤ mm := by omega
  rintro i e g hi ⟨v, s, hp, hG, hsl, hsa⟩
  refine T_pins hp fun e => ?_
  (try (simp (disch := first | omega | (simp <;> omega) | fail) only [push_cast, ↓reduceIte, Nat.reduceEqDiff, Nat.reduceAdd, Nat.reduceMul, Nat.reduceSub, Nat.reduceLT, Int.reduceToNat]))
  first | refine goC_split (fun hc => ?_) (fun hc => ?_) | refine cnd_split (fun hc => ?_) (fun hc => ?_)
  · (try (simp only [decide_eq_true_eq, decide_eq_false_iff_not, Bool.not_eq_true', Bool.not_eq_false', Bool.and_eq_true, Bool.or_eq_true, Int.not_lt, Int.not_le] at hc)); (try (simp (disch := first | omega | (simp <;> omega) | fail) only [push_cast, ↓reduceIte, Nat.reduceEqDiff, Nat.reduceAdd, Nat.reduceMul, Nat.reduceSub, Nat.reduceLT, Int.reduceToNat]))
    refine (c_spec_l1Cur_pick b c _ g 11 hG.1.2.2 (by omega) (by omega) (by omega)).mono (fun x g2 hx => ?_) (fun b' _ hb' => Or.inl hb')
    obtain ⟨⟨k, rfl, k0, k1⟩, hs2⟩ := hx
    have hG2 := hG.step hs2.f
    (try (simp (disch := first | omega | (simp <;> omega) | fail) only [push_cast, ↓reduceIte, Nat.reduceEqDiff, Nat.reduceAdd, Nat.reduceMul, Nat.reduceSub, Nat.reduceLT, Int.reduceToNat]))
    refine hG2.app (a := ([97, 97, 98, 98, 99, 120, 121, 122, 33, 125, 48] : List UInt8).getD k.toNat 0) (by_ := 1) rfl (fun y hy => Or.inr hy) (by omega) fun v2 g3 hG3 => ?_
    (try (simp (disch := first | omega | (simp <;> omega) | fail) only [push_cast, ↓reduceIte, Nat.reduceEqDiff, Nat.reduceAdd, Nat.reduceMul, Nat.reduceSub, Nat.reduceLT, Int.reduceToNat]))
    have hsa2 : (s ++ [([97, 97, 98, 98, 99, 120, 121, 122, 33, 125, 48] : List UInt8).getD k.toNat 0]).all okByte = true := by
      rw [List.all_append, hsa, List.all_cons, hlet _ (by omega)]
      rfl
    all_goals (try exact ⟨_, _, rfl, hG3, by simp [hsl], hsa2⟩)
    all_goals (try exact ⟨_, _, ⟨rfl, by omega⟩, hG3, by simp [hsl], hsa2⟩)
  · (try (simp only [decide_eq_true_eq, decide_eq_false_iff_not, Bool.not_eq_true', Bool.not_eq_false', Bool.and_eq_true, Bool.or_eq_true, Int.not_lt, Int.not_le] at hc)); (try (simp (disch := first | omega | (simp <;> omega) | fail) only [push_cast, ↓reduceIte, Nat.reduceEqDiff, Nat.reduceAdd, Nat.reduceMul, Nat.reduceSub, Nat.reduceLT, Int.reduceToNat]))
    refine (c_spec_l1Cur_one b c _ g 12 hG.1.2.2 (by omega) (by omega) (by omega)).mono (fun x g2 hx => ?_) (fun b' _ hb' => Or.inl hb')
    obtain ⟨⟨t, rfl⟩, hs2⟩ := hx
    have hG2 := hG.step hs2.f
    have hok1 : ∀ s' : Str, s'.all okByte = true → 1 ≤ s'.length → s'.length ≤ 12 → okKey s' = true := fun s' a1 a2 a3 => by
      unfold okKey
      rw [a1, decide_eq_true (by omega), decide_eq_true (by omega)]
      rfl
    cases t
    · have hcb := hG2.cbs
      (try (simp (disch := first | omega | (simp <;> omega) | fail) only [push_cast, ↓reduceIte, Nat.reduceEqDiff, Nat.reduceAdd, Nat.reduceMul, Nat.reduceSub, Nat.reduceLT, Int.reduceToNat, hcb]))
      all_goals (try exact ⟨_, .free free_str, ⟨_, rfl, hok1 s hsa (by omega) (by omega)⟩, hG2.1.mono (by omega)⟩)
    · (try (simp (disch := first | omega | (simp <;> omega) | fail) only [push_cast, ↓reduceIte, Nat.reduceEqDiff, Nat.reduceAdd, Nat.reduceMul, Nat.reduceSub, Nat.reduceLT, Int.reduceToNat]))
      refine T_for (12 - i) (fun j e g' => ∃ v s', Pins e [(3, v)] ∧ GrD f8 h g' b c (K + 1 + i + 1) v s' ∧ s'.length = i + j ∧ s'.all okByte = true) ?_ ?_
      · refine ⟨v, s, ?_, hG2, by omega, hsa⟩
        (try (simp (disch := first | omega | (simp <;> omega) | fail) only [push_cast, ↓reduceIte, Nat.reduceEqDiff, Nat.reduceAdd, Nat.reduceMul, Nat.reduceSub, Nat.reduceLT, Int.reduceToNat]))
      rintro j e g' hj ⟨v', s', hp, hG', hsl', hsa'⟩
      refine T_pins hp fun e => ?_
      have hlv := hG'.lenA
      (try (simp (disch := first | omega | (simp <;> omega) | fail) only [push_cast, ↓reduceIte, Nat.reduceEqDiff, Nat.reduceAdd, Nat.reduceMul, Nat.reduceSub, Nat.reduceLT, Int.reduceToNat, hlv]))
      first | refine goC_split (fun hd => ?_) (fun hd => ?_) | refine cnd_split (fun hd => ?_) (fun hd => ?_)
      · (try (simp only [decide_eq_true_eq, decide_eq_false_iff_not, Bool.not_eq_true', Bool.not_eq_false', Bool.and_eq_true, Bool.or_eq_true, Int.not_lt, Int.not_le] at hd)); (try (simp (disch := first | omega | (simp <;> omega) | fail) only [push_cast, ↓reduceIte, Nat.reduceEqDiff, Nat.reduceAdd, Nat.reduceMul, Nat.reduceSub, Nat.reduceLT, Int.reduceToNat]))
        refine hG'.app (a := 97) (by_ := 1) rfl (fun y hy => Or.inr hy) (by omega) fun v2 g3 hG3 => ?_
        (try (simp (disch := first | omega | (simp <;> omega) | fail) only [push_cast, ↓reduceIte, Nat.reduceEqDiff, Nat.reduceAdd, Nat.reduceMul, Nat.reduceSub, Nat.reduceLT, Int.reduceToNat]))
        have hsa3 : (s' ++ [97]).all okByte = true := by
          rw [List.all_append, hsa', List.all_cons, h97]
          rfl
        all_goals (try exact ⟨by omega, _, _, rfl, hG3, by simp; omega, hsa3⟩)
        all_goals (try exact ⟨_, _, rfl, hG3, by simp; omega, hsa3⟩)
      · (try (simp only [decide_eq_true_eq, decide_eq_false_iff_not, Bool.not_eq_true', Bool.not_eq_false', Bool.and_eq_true, Bool.or_eq_true, Int.not_lt, Int.not_le] at hd)); (try (simp (disch := first | omega | (simp <;> omega) | fail) only [push_cast, ↓reduceIte, Nat.reduceEqDiff, Nat.reduceAdd, Nat.reduceMul, Nat.reduceSub, Nat.reduceLT, Int.reduceToNat]))
        have hcb := hG'.cbs
        (try (simp (disch := first | omega | (simp <;> omega) | fail) only [push_cast, ↓reduceIte, Nat.reduceEqDiff, Nat.reduceAdd, Nat.reduceMul, Nat.reduceSub, Nat.reduceLT, Int.reduceToNat, hcb]))
        all_goals (try exact ⟨_, .free free_str, ⟨_, rfl, hok1 s' hsa' (by omega) (by omega)⟩, hG'.1.mono (by omega)⟩)
theorem slc_two {h : H} {v : AV} {l : List Str} {B : List Nat} {i : Nat} (hS : S1 h 1 v l.length (l.map .str) B) (hi : i ≤ l.length) (hl : l.length ≤ 10000) : ∃ x1 x2, slcA 1 none (some (.int .i64 i)) v = some x1 ∧ slcA 1 (some (.int .i64 i)) none v = some x2 ∧
    ∀ g : H, (∀ k, k < h.length → g[k]? = h[k]?) → srcCells g false 1 x1 = some ((l.take i).map .str, i) ∧ srcCells g false 1 x2 = some ((l.drop i).map .str, l.length - i) := by
  rcases hS.2 with ⟨rfl, h0, _⟩ | ⟨b, rfl, _, hc⟩
  · have hl0 : l = [] := List.eq_nil_of_length_eq_zero h0
    subst hl0
    have hi0 : i = 0 := by simpa using hi
    subst hi0
    exact ⟨.nils, .nils, rfl, rfl, fun g _ => ⟨rfl, rfl⟩⟩
  · refine ⟨.sl b 0 1 i l.length, .sl b i 1 (l.length - i) (l.length - i), ?_, ?_, fun g hg => ?_⟩
    · rw [slcA_sl, bndA_int (by omega) (by omega)]
      simp [bndA_none]
    · rw [slcA_sl, bndA_none, Option.bind_some, bndA_int (by omega) (by omega)]
      simp
    · have hcg := cells_keep (hg b (cells_lt hc)) hc
      rw [src_sl, src_sl, hcg]
      simp only [Option.bind_some, List.length_map, Nat.mul_one, Nat.zero_add, List.drop_zero]
      rw [if_pos hi, if_pos (by omega)]
      refine ⟨by rw [List.map_take], ?_⟩
      rw [← List.map_drop, List.take_of_length_le (by simp)]
theorem c_spec_l1PutS_x (v : AV) (l : List Str) (B : List Nat) (s : Str) (h : H) (hS : S1 h 1 v l.length (l.map .str) B) (hl : l.length ≤ 10000) :
    Call Tryz.prog 79 [v, .str s] h Nowhere (fun x h' => h.length ≤ h'.length ∧ (∀ k, k < h.length → h'[k]? = h[k]?) ∧ ∃ (l' : List Str) (B' : List Nat), S1 h' 1 x l'.length (l'.map .str) B' ∧ (∀ k ∈ B', k ∈ B ∨ h.length ≤ k) ∧ l' = putS l s) := by
  refine enter (by kernel_rfl) e79 (by kernel_rfl) rfl fun hok => ?_
  simp only [r79, initEnv_2]
  generalize hT : RCode.seq (.reg (⟨some 34, .m (.bsl 1 0 [.str []] []), none⟩ :: _)) _ = TL
  have tail : ∀ (i : Nat) (e : Env), i ≤ l.length → putS l s = l.take i ++ [s] ++ l.drop i → Pins e [(0, v), (1, .str s), (5, .int .i64 i)] → T Tryz.prog (fun b => Nowhere b ∨ h.length ≤ b) TL (K Tryz.prog (fun b => Nowhere b ∨ h.length ≤ b) [] (Ends [.t 4] fun x h' => h.length ≤ h'.length ∧ (∀ k, k < h.length → h'[k]? = h[k]?) ∧ ∃ (l' : List Str) (B' : List Nat), S1 h' 1 x l'.length (l'.map .str) B' ∧ (∀ k ∈ B', k ∈ B ∨ h.length ≤ k) ∧ l' = putS l s)) e h := by
    intro i e hi hput hp
    rw [← hT]
    refine T_pins hp fun e => ?_
    obtain ⟨x1, x2, hx1, hx2, hsrc⟩ := slc_two hS hi hl
    have hs0 : S1 (h ++ [some (.cells [])]) 1 (.sl h.length 0 1 0 0) 0 [] [h.length] := ⟨by simp, .inr ⟨h.length, rfl, rfl, by rw [cells_h0]; rfl⟩⟩
    (try (simp (disch := first | omega | (simp <;> omega) | fail) only [push_cast, ↓reduceIte, Nat.reduceEqDiff, Nat.reduceAdd, Nat.reduceMul, Nat.reduceSub, Nat.reduceLT, Int.reduceToNat, hx1]))
    rw [(hsrc (h ++ [some (.cells [])]) fun k hk => List.getElem?_append_left hk).1]
    refine hs0.app0 (k := i) (by_ := 16) (fun b hb => Or.inr (by simp at hb; omega)) (by simp; omega) (by omega) fun v1 h1 B1 a1 a2 a3 a4 a5 => ?_
    simp only [List.length_append, List.length_cons, List.length_nil] at a2 a3
    have k1 : ∀ k, k < h.length → h1[k]? = h[k]? := fun k hk => (a3 k (by omega) (by simp; omega)).trans (List.getElem?_append_left hk)
    have b1 : ∀ k ∈ B1, h.length ≤ k := fun k hk => by rcases a4 k hk with h5 | h5 <;> simp at h5 <;> omega
    (try (simp (disch := first | omega | (simp <;> omega) | fail) only [push_cast, ↓reduceIte, Nat.reduceEqDiff, Nat.reduceAdd, Nat.reduceMul, Nat.reduceSub, Nat.reduceLT, Int.reduceToNat]))
    have b2 := a1.frame (h' := h1 ++ [some (.cells [.str s])]) fun c hc => List.getElem?_append_left (a1.lt c hc)
    refine b2.app0 (new := [.str s]) (k := 1) (by_ := 16) (fun b hb => Or.inr (b1 b hb)) (by simp) (by omega) fun v2 h2 B2 c1 c2 c3 c4 c5 => ?_
    simp only [List.length_append, List.length_cons, List.length_nil] at c2 c3 c4
    have k2 : ∀ k, k < h.length → h2[k]? = h[k]? := fun k hk => (c3 k (by omega) fun h5 => by have := b1 k h5; omega).trans ((List.getElem?_append_left (by omega)).trans (k1 k hk))
    have b3 : ∀ k ∈ B2, h.length ≤ k := fun k hk => by
      rcases c4 k hk with h5 | h5
      · exact b1 k h5
      · omega
    (try (simp (disch := first | omega | (simp <;> omega) | fail) only [push_cast, ↓reduceIte, Nat.reduceEqDiff, Nat.reduceAdd, Nat.reduceMul, Nat.reduceSub, Nat.reduceLT, Int.reduceToNat, hx2]))
    rw [(hsrc h2 k2).2]
    refine c1.app0 (k := l.length - i) (by_ := 16) (fun b hb => Or.inr (b3 b hb)) (by simp) (by omega) fun v3 h3 B3 d1 d2 d3 d4 d5 => ?_
    have hL : ((([] ++ (l.take i).map AV.str) ++ [.str s]) ++ (l.drop i).map AV.str) = (l.take i ++ [s] ++ l.drop i).map AV.str := by simp
    have hn : (0 + i + 1 + (l.length - i)) = (l.take i ++ [s] ++ l.drop i).length := by simp; omega
    rw [hL, hn] at d1
    have k3 : ∀ k, k < h.length → h3[k]? = h[k]? := fun k hk => (d3 k (by omega) fun h5 => by have := b3 k h5; omega).trans (k2 k hk)
    have hl3 : h.length ≤ h3.length := by omega
    have hfin : ∃ (l' : List Str) (B' : List Nat), S1 h3 1 v3 l'.length (l'.map .str) B' ∧ (∀ k ∈ B', k ∈ B ∨ h.length ≤ k) ∧ l' = putS l s :=
      ⟨_, B3, d1, fun k hk => by
        rcases d4 k hk with h5 | h5
        · exact .inr (b3 k h5)
        · exact .inr (by omega), hput.symm⟩
    (try (simp (disch := first | omega | (simp <;> omega) | fail) only [push_cast, ↓reduceIte, Nat.reduceEqDiff, Nat.reduceAdd, Nat.reduceMul, Nat.reduceSub, Nat.reduceLT, Int.reduceToNat]))
    all_goals (try exact ⟨hl3, k3, hfin⟩)
    all_goals (try exact ⟨k3, hfin⟩)
  have hlv : lenA v = some (.int .i64 l.length) := by
    rcases hS.2 with ⟨rfl, h0, _⟩ | ⟨b, rfl, _, _⟩
    · rw [h0]; rfl
    · rfl
  (try (simp (disch := first | omega | (simp <;> omega) | fail) only [push_cast, ↓reduceIte, Nat.reduceEqDiff, Nat.reduceAdd, Nat.reduceMul, Nat.reduceSub, Nat.reduceLT, Int.reduceToNat]))
  refine T_for l.length (fun i e h' => Pins e [(0, v), (1, .str s), (5, .int .i64 i)] ∧ h' = h ∧ ∀ j, j < i → Op.bytesLess (l.getD j []) s = true) ?_ ?_
  · (try (simp (disch := first | omega | (simp <;> omega) | fail) only [push_cast, ↓reduceIte, Nat.reduceEqDiff, Nat.reduceAdd, Nat.reduceMul, Nat.reduceSub, Nat.reduceLT, Int.reduceToNat]))
    all_goals (try exact fun j hj => absurd hj (Nat.not_lt_zero j))
    all_goals (try simp)
  rintro i e h' hi ⟨hp, rfl, hlo⟩
  refine T_pins hp fun e => ?_
  have hself : putS l s = l → h'.length ≤ h'.length ∧ (∀ k, k < h'.length → h'[k]? = h'[k]?) ∧ ∃ (l' : List Str) (B' : List Nat), S1 h' 1 v l'.length (l'.map .str) B' ∧ (∀ k ∈ B', k ∈ B ∨ h'.length ≤ k) ∧ l' = putS l s := fun h5 => ⟨Nat.le_refl _, fun _ _ => rfl, l, B, hS, fun k hk => .inl hk, h5.symm⟩
  by_cases hil : i < l.length
  · rcases hS.2 with ⟨_, h0, _⟩ | ⟨b, hv, hB, hcb⟩
    · omega
    have hia : iaddrA 1 v (.int .i64 i) = some (.adr b i) := by
      rw [hv, iaddrA_sl (by omega) (by omega)]
      simp
    have hget : (l.map AV.str)[i]? = some (.str (l.getD i [])) := by simp [hil]
    (try (simp (disch := first | omega | (simp <;> omega) | fail) only [push_cast, ↓reduceIte, Nat.reduceEqDiff, Nat.reduceAdd, Nat.reduceMul, Nat.reduceSub, Nat.reduceLT, Int.reduceToNat, hlv, hia, hcb, hget]))
    first | refine goC_split (fun hc => ?_) (fun hc => ?_) | refine cnd_split (fun hc => ?_) (fun hc => ?_)
    · (try (simp only [decide_eq_true_eq, decide_eq_false_iff_not, Bool.not_eq_true', Bool.not_eq_false', Bool.and_eq_true, Bool.or_eq_true, Int.not_lt, Int.not_le] at hc)); (try (simp (disch := first | omega | (simp <;> omega) | fail) only [push_cast, ↓reduceIte, Nat.reduceEqDiff, Nat.reduceAdd, Nat.reduceMul, Nat.reduceSub, Nat.reduceLT, Int.reduceToNat]))
      have hnx : ∀ j, j < i + 1 → Op.bytesLess (l.getD j []) s = true := fun j hj => by
        rcases Nat.lt_or_ge j i with h5 | h5
        · exact hlo j h5
        · rw [show j = i by omega]
          exact hc
      (try (simp (disch := first | omega | (simp <;> omega) | fail) only [push_cast, ↓reduceIte, Nat.reduceEqDiff, Nat.reduceAdd, Nat.reduceMul, Nat.reduceSub, Nat.reduceLT, Int.reduceToNat]))
      all_goals (try exact hnx)
    · (try (simp only [decide_eq_true_eq, decide_eq_false_iff_not, Bool.not_eq_true', Bool.not_eq_false', Bool.and_eq_true, Bool.or_eq_true, Int.not_lt, Int.not_le] at hc)); (try (simp (disch := first | omega | (simp <;> omega) | fail) only [push_cast, ↓reduceIte, Nat.reduceEqDiff, Nat.reduceAdd, Nat.reduceMul, Nat.reduceSub, Nat.reduceLT, Int.reduceToNat]))
      have hpa := putS_at (s := s) (l := l) hi hlo fun _ => by simpa using hc
      (try (simp (disch := first | omega | (simp <;> omega) | fail) only [push_cast, ↓reduceIte, Nat.reduceEqDiff, Nat.reduceAdd, Nat.reduceMul, Nat.reduceSub, Nat.reduceLT, Int.reduceToNat, hlv, hia, hcb, hget]))
      first | refine goC_split (fun hd => ?_) (fun hd => ?_) | refine cnd_split (fun hd => ?_) (fun hd => ?_)
      · (try (simp only [decide_eq_true_eq, decide_eq_false_iff_not, Bool.not_eq_true', Bool.not_eq_false', Bool.and_eq_true, Bool.or_eq_true, Int.not_lt, Int.not_le] at hd)); (try (simp (disch := first | omega | (simp <;> omega) | fail) only [push_cast, ↓reduceIte, Nat.reduceEqDiff, Nat.reduceAdd, Nat.reduceMul, Nat.reduceSub, Nat.reduceLT, Int.reduceToNat]))
        rw [if_pos ⟨hil, hd⟩] at hpa
        have hself := hself hpa
        (try (simp (disch := first | omega | (simp <;> omega) | fail) only [push_cast, ↓reduceIte, Nat.reduceEqDiff, Nat.reduceAdd, Nat.reduceMul, Nat.reduceSub, Nat.reduceLT, Int.reduceToNat]))
        all_goals (try exact hself)
        all_goals (try exact ⟨fun _ _ => trivial, hself.2.2⟩)
      · (try (simp only [decide_eq_true_eq, decide_eq_false_iff_not, Bool.not_eq_true', Bool.not_eq_false', Bool.and_eq_true, Bool.or_eq_true, Int.not_lt, Int.not_le] at hd)); (try (simp (disch := first | omega | (simp <;> omega) | fail) only [push_cast, ↓reduceIte, Nat.reduceEqDiff, Nat.reduceAdd, Nat.reduceMul, Nat.reduceSub, Nat.reduceLT, Int.reduceToNat]))
        rw [if_neg (fun h5 => hd h5.2)] at hpa
        (try (simp (disch := first | omega | (simp <;> omega) | fail) only [push_cast, ↓reduceIte, Nat.reduceEqDiff, Nat.reduceAdd, Nat.reduceMul, Nat.reduceSub, Nat.reduceLT, Int.reduceToNat]))
        all_goals (try exact tail i _ hi hpa ⟨rfl, rfl, rfl, trivial⟩)
  · have hpa := putS_at (s := s) (l := l) hi hlo fun h5 => absurd h5 hil
    rw [if_neg (fun h5 => hil h5.1)] at hpa
    have hnl : ¬ (i : Int) < (l.length : Int) := by omega
    (try (simp (disch := first | omega | (simp <;> omega) | fail) only [push_cast, ↓reduceIte, Nat.reduceEqDiff, Nat.reduceAdd, Nat.reduceMul, Nat.reduceSub, Nat.reduceLT, Int.reduceToNat, hlv, hnl]))
    all_goals (try exact tail i _ hi hpa ⟨rfl, rfl, rfl, trivial⟩)
theorem GrD.next {h g g2 : H} {b K : Nat} {c : Option (List UInt8)} {v x : AV} {l l' : List Str} {B B' : List Nat} (hg : CurF h g b c K) (hb : b < h.length) (hB : ∀ k ∈ B, h.length ≤ k) (hl : g.length ≤ g2.length) (hk : ∀ k, k < g.length → g2[k]? = g[k]?) (hs : S1 g2 1 x l'.length (l'.map .str) B') (hB2 : ∀ k ∈ B', k ∈ B ∨ g.length ≤ k) : GrD AV.str h g2 b c K x l' := by
  have h1 := hg.1
  refine ⟨⟨by omega, fun k hk1 hn => (hk k (by omega)).trans (hg.2.1 k hk1 hn), hg.2.2.frame (hk b (by omega))⟩, hb, B', hs, fun k hk1 => ?_⟩
  rcases hB2 k hk1 with h5 | h5
  · exact hB k h5
  · omega
theorem S1.vwS0 {h : H} {n0 n : Nat} {v : AV} {l : List Str} {B : List Nat} (hs : S1 h 1 v n (l.map .str) B) (hb : ∀ b ∈ B, n0 ≤ b) : ∃ o, Vw h n0 v (eS o) ∧ lS o = l := by
  have hn : n = l.length := by have := hs.1; simp at this; omega
  subst hn
  rcases hs.2 with ⟨rfl, h0, rfl⟩ | ⟨b, rfl, rfl, hc⟩
  · exact ⟨none, .free free_nils, (List.eq_nil_of_length_eq_zero h0).symm⟩
  · exact ⟨some l, vw_all (hb b (by simp)) hc (by simp) (one_map fun _ => rfl) (free_map_ fun _ => free_str), rfl⟩

theorem c_spec_l1Cur_keys_x (b : Nat) (c : Option (List UInt8)) (K : Nat) (h : H) (most : Nat) (hcu : CurI h b c K) (hK : K ≤ 10000000) (h1m : 1 ≤ most) (hm : most ≤ 40) :
    Call Tryz.prog 39 [.adr b 0, .int .i64 most] h (fun b' => b' = b) (fun x g => ∃ l : List Str, GrD AV.str h g b c (K + 300) x l ∧ l.length ≤ most ∧ l.Pairwise slt ∧ ∀ s ∈ l, okKey s = true) := by
  refine enter (by kernel_rfl) e39 (by kernel_rfl) rfl fun hok => ?_
  simp only [r39, initEnv_2]
  have hbl := hcu.lt
  (try (simp (disch := first | omega | (simp <;> omega) | fail) only [push_cast, ↓reduceIte, Nat.reduceEqDiff, Nat.reduceAdd, Nat.reduceMul, Nat.reduceSub, Nat.reduceLT, Int.reduceToNat]))
  refine (c_spec_l1Cur_pick b c K h ((most : Int) + 1) hcu (by omega) (by omega) (by omega)).mono (fun x h1 hx => ?_) (fun b' _ hb' => Or.inl hb')
  obtain ⟨⟨q, rfl, q0, q1⟩, hs⟩ := hx
  obtain ⟨mm, rfl⟩ : ∃ mm : Nat, q = (mm : Int) := ⟨q.toNat, by omega⟩
  have hG1 : GrD AV.str h h1 b c (K + 1) .nils [] := (GrD.start hcu).step hs.f
  (try (simp (disch := first | omega | (simp <;> omega) | fail) only [push_cast, ↓reduceIte, Nat.reduceEqDiff, Nat.reduceAdd, Nat.reduceMul, Nat.reduceSub, Nat.reduceLT, Int.reduceToNat]))
  refine T_for mm (fun i e g => ∃ v l, Pins e [(0, .adr b 0), (5, v), (6, .int .i64 ((mm : Int) - i))] ∧ GrD AV.str h g b c (K + 1 + 6 * i) v l ∧ l.length ≤ i ∧ l.Pairwise slt ∧ ∀ s ∈ l, okKey s = true) ?_ ?_
  · refine ⟨.nils, [], ?_, hG1, by simp, .nil, by simp⟩
    (try (simp (disch := first | omega | (simp <;> omega) | fail) only [push_cast, ↓reduceIte, Nat.reduceEqDiff, Nat.reduceAdd, Nat.reduceMul, Nat.reduceSub, Nat.reduceLT, Int.reduceToNat]))
    all_goals (try simp)
  rintro i e g hi ⟨v, l, hp, hG, hll, hpw, hka⟩
  refine T_pins hp fun e => ?_
  (try (simp (disch := first | omega | (simp <;> omega) | fail) only [push_cast, ↓reduceIte, Nat.reduceEqDiff, Nat.reduceAdd, Nat.reduceMul, Nat.reduceSub, Nat.reduceLT, Int.reduceToNat]))
  first | refine goC_split (fun hc => ?_) (fun hc => ?_) | refine cnd_split (fun hc => ?_) (fun hc => ?_)
  · (try (simp only [decide_eq_true_eq, decide_eq_false_iff_not, Bool.not_eq_true', Bool.not_eq_false', Bool.and_eq_true, Bool.or_eq_true, Int.not_lt, Int.not_le] at hc)); (try (simp (disch := first | omega | (simp <;> omega) | fail) only [push_cast, ↓reduceIte, Nat.reduceEqDiff, Nat.reduceAdd, Nat.reduceMul, Nat.reduceSub, Nat.reduceLT, Int.reduceToNat]))
    refine (c_spec_l1Cur_key_x b c _ g hG.1.2.2 (by omega)).mono (fun x g2 hx => ?_) (fun b' _ hb' => Or.inl hb')
    obtain ⟨⟨s, rfl, hsl⟩, hF⟩ := hx
    have hG2 := hG.step hF
    obtain ⟨f1, f2, B, f3, f4⟩ := hG2
    (try (simp (disch := first | omega | (simp <;> omega) | fail) only [push_cast, ↓reduceIte, Nat.reduceEqDiff, Nat.reduceAdd, Nat.reduceMul, Nat.reduceSub, Nat.reduceLT, Int.reduceToNat]))
    refine (c_spec_l1PutS_x v l B s g2 f3 (by omega)).mono (fun x g3 hx => ?_) (fun _ _ h => h.elim)
    obtain ⟨y1, y2, l', B', y3, y4, y5⟩ := hx
    have hG3 := GrD.next (v := v) (l := l) f1 f2 f4 y1 y2 y3 y4
    have z1 : l'.length ≤ i + 1 := by
      rw [y5]
      have := putS_len (s := s) (l := l)
      omega
    have z2 : l'.Pairwise slt := by rw [y5]; exact putS_pw hpw
    have z3 : ∀ s ∈ l', okKey s = true := fun x hx => by
      rw [y5] at hx
      rcases putS_mem.1 hx with h5 | h5
      · exact hka x h5
      · rw [h5]; exact hsl
    (try (simp (disch := first | omega | (simp <;> omega) | fail) only [push_cast, ↓reduceIte, Nat.reduceEqDiff, Nat.reduceAdd, Nat.reduceMul, Nat.reduceSub, Nat.reduceLT, Int.reduceToNat]))
    all_goals (try exact ⟨_, _, rfl, hG3, z1, z2, z3⟩)
    all_goals (try exact ⟨_, _, ⟨rfl, by omega⟩, hG3, z1, z2, z3⟩)
    all_goals (try exact ⟨_, hG3, z1, z2, z3⟩)
    all_goals (try exact ⟨by omega, _, hG3, z1, z2, z3⟩)
  · (try (simp only [decide_eq_true_eq, decide_eq_false_iff_not, Bool.not_eq_true', Bool.not_eq_false', Bool.and_eq_true, Bool.or_eq_true, Int.not_lt, Int.not_le] at hc)); (try (simp (disch := first | omega | (simp <;> omega) | fail) only [push_cast, ↓reduceIte, Nat.reduceEqDiff, Nat.reduceAdd, Nat.reduceMul, Nat.reduceSub, Nat.reduceLT, Int.reduceToNat]))
    (try (simp (disch := first | omega | (simp <;> omega) | fail) only [push_cast, ↓reduceIte, Nat.reduceEqDiff, Nat.reduceAdd, Nat.reduceMul, Nat.reduceSub, Nat.reduceLT, Int.reduceToNat]))
    all_goals (try exact ⟨_, hG.mono (by omega), by omega, hpw, hka⟩)
theorem c_spec_l1All (a : Option (List Int)) (lo hi : Int) : Fn Tryz.prog 67 [eI a, .int .i64 lo, .int .i64 hi] (· = .bool ((lI a).all fun m => decide (lo ≤ m) && decide (m ≤ hi))) := by
  refine Fn.of free_bool fun h => ?_
  refine enter (by kernel_rfl) e67 (by kernel_rfl) rfl fun hok => ?_
  simp only [r67, initEnv_3]
  have hlen := ok_eI (okV_0 hok)
  (try (simp (disch := first | omega | (simp <;> omega) | fail) only [push_cast, ↓reduceIte, Nat.reduceEqDiff, Nat.reduceAdd, Nat.reduceMul, Nat.reduceSub, Nat.reduceLT, Int.reduceToNat]))
  refine T_for (lI a).length (fun i e h' => Pins e [(1, .int .i64 lo), (2, .int .i64 hi), (9, eI a), (10, .int .i64 (lI a).length), (11, .int .i64 i)] ∧ h' = h ∧ ((lI a).take i).all (fun m => decide (lo ≤ m) && decide (m ≤ hi)) = true) ?_ ?_
  · (try (simp (disch := first | omega | (simp <;> omega) | fail) only [push_cast, ↓reduceIte, Nat.reduceEqDiff, Nat.reduceAdd, Nat.reduceMul, Nat.reduceSub, Nat.reduceLT, Int.reduceToNat]))
    all_goals (try simp)
  rintro i e h' hi_ ⟨hp, rfl, ha⟩
  refine T_pins hp fun e => ?_
  (try (simp (disch := first | omega | (simp <;> omega) | fail) only [push_cast, ↓reduceIte, Nat.reduceEqDiff, Nat.reduceAdd, Nat.reduceMul, Nat.reduceSub, Nat.reduceLT, Int.reduceToNat]))
  first | refine goC_split (fun hc => ?_) (fun hc => ?_) | refine cnd_split (fun hc => ?_) (fun hc => ?_)
  · (try (simp only [decide_eq_true_eq, decide_eq_false_iff_not, Bool.not_eq_true', Bool.not_eq_false', Bool.and_eq_true, Bool.or_eq_true, Int.not_lt, Int.not_le] at hc)); (try (simp (disch := first | omega | (simp <;> omega) | fail) only [push_cast, ↓reduceIte, Nat.reduceEqDiff, Nat.reduceAdd, Nat.reduceMul, Nat.reduceSub, Nat.reduceLT, Int.reduceToNat]))
    have hi2 : i < (lI a).length := by omega
    (try (simp (disch := first | omega | (simp <;> omega) | fail) only [push_cast, ↓reduceIte, Nat.reduceEqDiff, Nat.reduceAdd, Nat.reduceMul, Nat.reduceSub, Nat.reduceLT, Int.reduceToNat]))
    refine (c_spec_l1In _ _ _).call ?_
    have hn : ((lI a).take (i + 1)).all (fun m => decide (lo ≤ m) && decide (m ≤ hi)) = (decide (lo ≤ (lI a).getD i 0) && decide ((lI a).getD i 0 ≤ hi)) := by
      rw [List.take_add_one, List.all_append, ha]
      simp [hi2]
    cases hk : (decide (lo ≤ (lI a).getD i 0) && decide ((lI a).getD i 0 ≤ hi))
    · (try (simp (disch := first | omega | (simp <;> omega) | fail) only [push_cast, ↓reduceIte, Nat.reduceEqDiff, Nat.reduceAdd, Nat.reduceMul, Nat.reduceSub, Nat.reduceLT, Int.reduceToNat]))
      symm
      rw [List.all_eq_false]
      refine ⟨(lI a).getD i 0, by simp [hi2], by rw [hk]; simp⟩
    · (try (simp (disch := first | omega | (simp <;> omega) | fail) only [push_cast, ↓reduceIte, Nat.reduceEqDiff, Nat.reduceAdd, Nat.reduceMul, Nat.reduceSub, Nat.reduceLT, Int.reduceToNat]))
      rw [hn, hk]
  · (try (simp only [decide_eq_true_eq, decide_eq_false_iff_not, Bool.not_eq_true', Bool.not_eq_false', Bool.and_eq_true, Bool.or_eq_true, Int.not_lt, Int.not_le] at hc)); (try (simp (disch := first | omega | (simp <;> omega) | fail) only [push_cast, ↓reduceIte, Nat.reduceEqDiff, Nat.reduceAdd, Nat.reduceMul, Nat.reduceSub, Nat.reduceLT, Int.reduceToNat]))
    have : (lI a).take i = lI a := List.take_of_length_le (by omega)
    rw [this] at ha
    rw [ha]

theorem c_spec_pfPeeled (p : Pd) : Fn Tryz.prog 25 [eP p] (· = .bool (okPd p)) := by
  refine Fn.of free_bool fun h => ?_
  refine enter (by kernel_rfl) e25 (by kernel_rfl) rfl fun hok => ?_
  simp only [r25, initEnv_1]
  (try (simp (disch := first | omega | (simp <;> omega) | fail) only [push_cast, ↓reduceIte, Nat.reduceEqDiff, Nat.reduceAdd, Nat.reduceMul, Nat.reduceSub, Nat.reduceLT, Int.reduceToNat]))
  unfold okPd
  refine (c_spec_l1In _ _ _).call ?_
  cases h1 : (decide (0 ≤ p.seed) && decide (p.seed ≤ 9999))
  · (try (simp (disch := first | omega | (simp <;> omega) | fail) only [push_cast, ↓reduceIte, Nat.reduceEqDiff, Nat.reduceAdd, Nat.reduceMul, Nat.reduceSub, Nat.reduceLT, Int.reduceToNat]))
  (try (simp (disch := first | omega | (simp <;> omega) | fail) only [push_cast, ↓reduceIte, Nat.reduceEqDiff, Nat.reduceAdd, Nat.reduceMul, Nat.reduceSub, Nat.reduceLT, Int.reduceToNat]))
  refine (c_spec_l1In _ _ _).call ?_
  cases h2 : (decide (1 ≤ p.seg) && decide (p.seg ≤ 24))
  · (try (simp (disch := first | omega | (simp <;> omega) | fail) only [push_cast, ↓reduceIte, Nat.reduceEqDiff, Nat.reduceAdd, Nat.reduceMul, Nat.reduceSub, Nat.reduceLT, Int.reduceToNat]))
  have h3 : 1 ≤ p.seg ∧ p.seg ≤ 24 := by simpa using h2
  (try (simp (disch := first | omega | (simp <;> omega) | fail) only [push_cast, ↓reduceIte, Nat.reduceEqDiff, Nat.reduceAdd, Nat.reduceMul, Nat.reduceSub, Nat.reduceLT, Int.reduceToNat]))
  first | refine goC_split (fun hc => ?_) (fun hc => ?_) | refine cnd_split (fun hc => ?_) (fun hc => ?_)
  · (try (simp only [decide_eq_true_eq, decide_eq_false_iff_not, Bool.not_eq_true', Bool.not_eq_false', Bool.and_eq_true, Bool.or_eq_true, Int.not_lt, Int.not_le] at hc)); (try (simp (disch := first | omega | (simp <;> omega) | fail) only [push_cast, ↓reduceIte, Nat.reduceEqDiff, Nat.reduceAdd, Nat.reduceMul, Nat.reduceSub, Nat.reduceLT, Int.reduceToNat]))
    refine (c_spec_l1All _ _ _).call ?_
    (try (simp (disch := first | omega | (simp <;> omega) | fail) only [push_cast, ↓reduceIte, Nat.reduceEqDiff, Nat.reduceAdd, Nat.reduceMul, Nat.reduceSub, Nat.reduceLT, Int.reduceToNat]))
    unfold okMarks
    all_goals (try rfl)
  · (try (simp only [decide_eq_true_eq, decide_eq_false_iff_not, Bool.not_eq_true', Bool.not_eq_false', Bool.and_eq_true, Bool.or_eq_true, Int.not_lt, Int.not_le] at hc)); (try (simp (disch := first | omega | (simp <;> omega) | fail) only [push_cast, ↓reduceIte, Nat.reduceEqDiff, Nat.reduceAdd, Nat.reduceMul, Nat.reduceSub, Nat.reduceLT, Int.reduceToNat]))

theorem c_spec_l1Cur_among (b : Nat) (c : Option (List UInt8)) (K : Nat) (h : H) (b2 : Nat) (L : List Int) (hc : CurI h b c K) (hK : K ≤ 1000000000) (hL : 1 < L.length) (hL2 : L.length ≤ 200) (hb2 : h.cells b2 = some (L.map (.int .i64))) (hne : b2 ≠ b) :
    Call Tryz.prog 71 [.adr b 0, .sl b2 0 1 L.length L.length] h (fun b' => b' = b) (fun x h' => (∃ m : Int, x = .int .i64 m ∧ m ∈ L) ∧ CurS h h' b c (K + 1)) := by
  refine enter (by kernel_rfl) e71 (by kernel_rfl) rfl fun hok => ?_
  simp only [r71, initEnv_2]
  (try (simp (disch := first | omega | (simp <;> omega) | fail) only [push_cast, ↓reduceIte, Nat.reduceEqDiff, Nat.reduceAdd, Nat.reduceMul, Nat.reduceSub, Nat.reduceLT, Int.reduceToNat]))
  refine (c_spec_l1Cur_pick b c K h L.length hc hK (by omega) (by omega)).mono (fun x h' hx => ?_) (fun b' _ hb' => Or.inl hb')
  obtain ⟨⟨m, rfl, m0, m1⟩, hs⟩ := hx
  have hb3 : h'.cells b2 = some (L.map (.int .i64)) := by
    rw [cells_eq, hs.2.1 b2 hne, ← cells_eq]
    exact hb2
  have hmem : L.getD m.toNat 0 ∈ L := by
    have : m.toNat < L.length := by omega
    simp [this]
  (try (simp (disch := first | omega | (simp <;> omega) | fail) only [push_cast, ↓reduceIte, Nat.reduceEqDiff, Nat.reduceAdd, Nat.reduceMul, Nat.reduceSub, Nat.reduceLT, Int.reduceToNat, hb3]))
  all_goals (try exact ⟨⟨_, rfl, hmem⟩, hs⟩)

theorem c_spec_l1Cur_pick2 (b : Nat) (c : Option (List UInt8)) (K : Nat) (h : H) (n : Int) (hcu : CurI h b c K) (hK : K ≤ 100000000) (hn : 200 < n) (hn2 : n ≤ 100000) :
    Call Tryz.prog 35 [.adr b 0, .int .i64 n] h (fun b' => b' = b) (fun x h' => (∃ m : Int, x = .int .i64 m ∧ 0 ≤ m ∧ m < n) ∧ CurS h h' b c (K + 2)) := by
  refine enter (by kernel_rfl) e35 (by kernel_rfl) rfl fun hok => ?_
  simp only [r35, initEnv_2]
  (try (simp (disch := first | omega | (simp <;> omega) | fail) only [push_cast, ↓reduceIte, Nat.reduceEqDiff, Nat.reduceAdd, Nat.reduceMul, Nat.reduceSub, Nat.reduceLT, Int.reduceToNat]))
  refine (c_spec_l1Cur_next b c K h hcu (by omega)).mono (fun x h' hx => ?_) (fun b' _ hb' => Or.inl hb')
  obtain ⟨⟨m, rfl, m0, m1⟩, hs⟩ := hx
  (try (simp (disch := first | omega | (simp <;> omega) | fail) only [push_cast, ↓reduceIte, Nat.reduceEqDiff, Nat.reduceAdd, Nat.reduceMul, Nat.reduceSub, Nat.reduceLT, Int.reduceToNat]))
  repeat' (with_reducible refine And.intro ?_ ?_)
  all_goals
    refine (c_spec_l1Cur_next b c (K + 1) h' hs.2.2 (by omega)).mono (fun x h2 hx => ?_) (fun b' _ hb' => Or.inl hb')
    obtain ⟨⟨m2, rfl, m20, m21⟩, hs2⟩ := hx
    have hs3 : CurS h h2 b c (K + 2) := ⟨hs2.1.trans hs.1, fun k hk => (hs2.2.1 k hk).trans (hs.2.1 k hk), hs2.2.2⟩
    have h1 := Int.emod_nonneg (m * 256 + m2) (show n ≠ 0 by omega)
    have h2 := Int.emod_lt_of_pos (m * 256 + m2) (show 0 < n by omega)
    (try (simp (disch := first | omega | (simp <;> omega) | fail) only [push_cast, ↓reduceIte, Nat.reduceEqDiff, Nat.reduceAdd, Nat.reduceMul, Nat.reduceSub, Nat.reduceLT, Int.reduceToNat]))
    all_goals (try exact ⟨⟨_, rfl, h1, h2⟩, hs3⟩)
theorem c_spec_l1Cur_seed9 (b : Nat) (c : Option (List UInt8)) (K : Nat) (h : H) (hcu : CurI h b c K) (hK : K ≤ 10000000) :
    Call Tryz.prog 42 [.adr b 0] h (fun b' => b' = b) (fun x g => (∃ n : Int, x = .int .i64 n ∧ -1 ≤ n ∧ n ≤ 10000) ∧ CurF h g b c (K + 4)) := by
  refine Call.cur hcu.lt ?_
  refine enter (by kernel_rfl) e42 (by kernel_rfl) rfl fun hok => ?_
  simp only [r42, initEnv_1]
  have hbl := hcu.lt
  (try (simp (disch := first | omega | (simp <;> omega) | fail) only [push_cast, ↓reduceIte, Nat.reduceEqDiff, Nat.reduceAdd, Nat.reduceMul, Nat.reduceSub, Nat.reduceLT, Int.reduceToNat]))
  refine (c_spec_l1Cur_pick b c K h 12 hcu (by omega) (by omega) (by omega)).mono (fun x h1 hx => ?_) (fun b' _ hb' => Or.inl hb')
  obtain ⟨⟨k, rfl, k0, k1⟩, hs⟩ := hx
  have hF := hs.f
  by_cases z0 : k = 0
  · (try (simp (disch := first | omega | (simp <;> omega) | fail) only [push_cast, ↓reduceIte, Nat.reduceEqDiff, Nat.reduceAdd, Nat.reduceMul, Nat.reduceSub, Nat.reduceLT, Int.reduceToNat, z0]))
    refine ⟨rfl, ?_⟩
    have hM := (CurF.refl hs.2.2).more (l := [some (AObj.cells (([-1, 9999, 10000] : List Int).map (.int .i64)))])
    refine (c_spec_l1Cur_among b c _ (h1 ++ [some (AObj.cells (([-1, 9999, 10000] : List Int).map (.int .i64)))]) h1.length [-1, 9999, 10000] hM.2.2 (by omega) (by decide) (by decide) (by rw [cells_h0]; rfl) (by have := hs.2.2.lt; omega)).mono (fun x h2 hx => ?_) (fun b' _ hb' => Or.inl hb')
    obtain ⟨⟨s, rfl, hsm⟩, hs2⟩ := hx
    have hF2 := (hF.trans hM).trans hs2.f
    have hsl : -1 ≤ s ∧ s ≤ 10000 := by
      simp at hsm
      omega
    (try (simp (disch := first | omega | (simp <;> omega) | fail) only [push_cast, ↓reduceIte, Nat.reduceEqDiff, Nat.reduceAdd, Nat.reduceMul, Nat.reduceSub, Nat.reduceLT, Int.reduceToNat]))
    all_goals (try exact ⟨_, .free free_int, ⟨_, rfl, hsl.1, hsl.2⟩, hF2.mono (by omega)⟩)
  by_cases z1 : k = 1
  · (try (simp (disch := first | omega | (simp <;> omega) | fail) only [push_cast, ↓reduceIte, Nat.reduceEqDiff, Nat.reduceAdd, Nat.reduceMul, Nat.reduceSub, Nat.reduceLT, Int.reduceToNat, z1]))
    refine (c_spec_l1Cur_pick2 b c _ h1 10000 hs.2.2 (by omega) (by omega) (by omega)).mono (fun x h2 hx => ?_) (fun b' _ hb' => Or.inl hb')
    obtain ⟨⟨s, rfl, s0, s1⟩, hs2⟩ := hx
    have hF2 := hF.trans hs2.f
    (try (simp (disch := first | omega | (simp <;> omega) | fail) only [push_cast, ↓reduceIte, Nat.reduceEqDiff, Nat.reduceAdd, Nat.reduceMul, Nat.reduceSub, Nat.reduceLT, Int.reduceToNat]))
    all_goals (try exact ⟨_, .free free_int, ⟨_, rfl, by omega, by omega⟩, hF2.mono (by omega)⟩)
  (try (simp (disch := first | omega | (simp <;> omega) | fail) only [push_cast, ↓reduceIte, Nat.reduceEqDiff, Nat.reduceAdd, Nat.reduceMul, Nat.reduceSub, Nat.reduceLT, Int.reduceToNat, z0, z1]))
  refine (c_spec_l1Cur_pick b c _ h1 20 hs.2.2 (by omega) (by omega) (by omega)).mono (fun x h2 hx => ?_) (fun b' _ hb' => Or.inl hb')
  obtain ⟨⟨s, rfl, s0, s1⟩, hs2⟩ := hx
  have hF2 := hF.trans hs2.f
  (try (simp (disch := first | omega | (simp <;> omega) | fail) only [push_cast, ↓reduceIte, Nat.reduceEqDiff, Nat.reduceAdd, Nat.reduceMul, Nat.reduceSub, Nat.reduceLT, Int.reduceToNat]))
  all_goals (try exact ⟨_, .free free_int, ⟨_, rfl, by omega, by omega⟩, hF2.mono (by omega)⟩)

theorem c_spec_l1Cur_segment (b : Nat) (c : Option (List UInt8)) (K : Nat) (h : H) (hcu : CurI h b c K) (hK : K ≤ 1000000) :
    Call Tryz.prog 43 [.adr b 0] h (fun b' => b' = b) (fun x g => (∃ n : Int, x = .int .i64 n ∧ -1 ≤ n ∧ n ≤ 25) ∧ CurF h g b c (K + 4)) := by
  refine Call.cur hcu.lt ?_
  refine enter (by kernel_rfl) e43 (by kernel_rfl) rfl fun hok => ?_
  simp only [r43, initEnv_1]
  have hbl := hcu.lt
  have hfin : ∀ (g : H) (n : Int) (K' : Nat), CurF h g b c K' → K' ≤ K + 4 → -1 ≤ n → n ≤ 25 → ∃ t, Vw g h.length (.int .i64 n) t ∧ (∃ n : Int, t = .int .i64 n ∧ -1 ≤ n ∧ n ≤ 25) ∧ CurF h g b c (K + 4) := fun g n K' hF hk h1 h2 => ⟨_, .free free_int, ⟨n, rfl, h1, h2⟩, hF.mono hk⟩
  (try (simp (disch := first | omega | (simp <;> omega) | fail) only [push_cast, ↓reduceIte, Nat.reduceEqDiff, Nat.reduceAdd, Nat.reduceMul, Nat.reduceSub, Nat.reduceLT, Int.reduceToNat]))
  refine (c_spec_l1Cur_one b c K h 8 hcu (by omega) (by omega) (by omega)).mono (fun x h1 hx => ?_) (fun b' _ hb' => Or.inl hb')
  obtain ⟨⟨t, rfl⟩, hs⟩ := hx
  have hF := hs.f
  cases t
  · (try (simp (disch := first | omega | (simp <;> omega) | fail) only [push_cast, ↓reduceIte, Nat.reduceEqDiff, Nat.reduceAdd, Nat.reduceMul, Nat.reduceSub, Nat.reduceLT, Int.reduceToNat]))
    refine (c_spec_l1Cur_pick b c _ h1 10 hs.2.2 (by omega) (by omega) (by omega)).mono (fun x h2 hx => ?_) (fun b' _ hb' => Or.inl hb')
    obtain ⟨⟨k, rfl, k0, k1⟩, hs2⟩ := hx
    have hF2 := hF.trans hs2.f
    (try (simp (disch := first | omega | (simp <;> omega) | fail) only [push_cast, ↓reduceIte, Nat.reduceEqDiff, Nat.reduceAdd, Nat.reduceMul, Nat.reduceSub, Nat.reduceLT, Int.reduceToNat]))
    all_goals (try exact hfin _ _ _ hF2 (by omega) (by omega) (by omega))
    done
  · (try (simp (disch := first | omega | (simp <;> omega) | fail) only [push_cast, ↓reduceIte, Nat.reduceEqDiff, Nat.reduceAdd, Nat.reduceMul, Nat.reduceSub, Nat.reduceLT, Int.reduceToNat]))
    refine ⟨rfl, ?_⟩
    have hM := (CurF.refl hs.2.2).more (l := [some (AObj.cells (([-1, 0, 1, 24, 25] : List Int).map (.int .i64)))])
    refine (c_spec_l1Cur_among b c _ (h1 ++ [some (AObj.cells (([-1, 0, 1, 24, 25] : List Int).map (.int .i64)))]) h1.length [-1, 0, 1, 24, 25] hM.2.2 (by omega) (by decide) (by decide) (by rw [cells_h0]; rfl) (by have := hs.2.2.lt; omega)).mono (fun x h2 hx => ?_) (fun b' _ hb' => Or.inl hb')
    obtain ⟨⟨s, rfl, hsm⟩, hs2⟩ := hx
    have hF2 := (hF.trans hM).trans hs2.f
    have hsl : -1 ≤ s ∧ s ≤ 25 := by
      simp at hsm
      omega
    (try (simp (disch := first | omega | (simp <;> omega) | fail) only [push_cast, ↓reduceIte, Nat.reduceEqDiff, Nat.reduceAdd, Nat.reduceMul, Nat.reduceSub, Nat.reduceLT, Int.reduceToNat]))
    all_goals (try exact hfin _ _ _ hF2 (by omega) hsl.1 hsl.2)
    done

theorem S1.vwInt9 {h : H} {n0 n : Nat} {v : AV} {l : List Int} {B : List Nat} (hs : S1 h 1 v n (l.map (.int .i64)) B) (hb : ∀ b ∈ B, n0 ≤ b) : ∃ o, Vw h n0 v (eI o) ∧ lI o = l := by
  have hn : n = l.length := by have := hs.1; simp at this; omega
  subst hn
  rcases hs.2 with ⟨rfl, h0, rfl⟩ | ⟨b, rfl, rfl, hc⟩
  · exact ⟨none, .free free_nils, (List.eq_nil_of_length_eq_zero h0).symm⟩
  · exact ⟨some l, vw_all (hb b (by simp)) hc (by simp) (one_map fun _ => rfl) (free_map_ fun _ => free_int), rfl⟩
/-- A dictionary that is drawn, in its box. -/
def PdD (h g : H) (b : Nat) (c : Option (List UInt8)) (K b3 : Nat) (sd sg : Int) (v : AV) (l : List Int) : Prop :=
  b < h.length ∧ h.length + 1 ≤ b3 ∧ CurI g b c K ∧ g.cells h.length = some [.int .i64 0, .int .i64 0, .nils] ∧ (h.length ≤ g.length ∧ ∀ k, k < h.length → k ≠ b → g[k]? = h[k]?) ∧
  g.cells b3 = some [.int .i64 sd, .int .i64 sg, v] ∧ ∃ Bv, S1 g 1 v l.length (l.map (.int .i64)) Bv ∧ ∀ k ∈ Bv, h.length + 1 ≤ k ∧ k ≠ b3
theorem PdD.keep {h g g2 : H} {b K K' b3 : Nat} {c : Option (List UInt8)} {sd sg : Int} {v : AV} {l : List Int} (hp : PdD h g b c K b3 sd sg v l) (hF : CurF g g2 b c K') : PdD h g2 b c K' b3 sd sg v l := by
  obtain ⟨p1, p2, p3, p4, p5, p6, Bv, p7, p8⟩ := hp
  obtain ⟨f1, f2, f3⟩ := hF
  exact ⟨p1, p2, f3, cells_keep (f2 _ (cells_lt p4) (by omega)) p4, ⟨by omega, fun k hk hn => (f2 k (by omega) hn).trans (p5.2 k hk hn)⟩, cells_keep (f2 _ (cells_lt p6) (by omega)) p6, Bv, p7.frame fun k hk => f2 k (p7.lt k hk) (by have := (p8 k hk).1; omega), p8⟩
theorem PdD.mono {h g : H} {b K K' b3 : Nat} {c : Option (List UInt8)} {sd sg : Int} {v : AV} {l : List Int} (hp : PdD h g b c K b3 sd sg v l) (hk : K ≤ K') : PdD h g b c K' b3 sd sg v l := hp.keep ((CurF.refl hp.2.2.1).mono hk)
theorem PdD.more {h g l2 : H} {b K b3 : Nat} {c : Option (List UInt8)} {sd sg : Int} {v : AV} {l : List Int} (hp : PdD h g b c K b3 sd sg v l) : PdD h (g ++ l2) b c K b3 sd sg v l := hp.keep (CurF.refl hp.2.2.1).more
theorem PdD.at3 {h g : H} {b K b3 : Nat} {c : Option (List UInt8)} {sd sg : Int} {v : AV} {l : List Int} (hp : PdD h g b c K b3 sd sg v l) : g.cells b3 = some [.int .i64 sd, .int .i64 sg, v] := hp.2.2.2.2.2.1
theorem PdD.cur {h g : H} {b K b3 : Nat} {c : Option (List UInt8)} {sd sg : Int} {v : AV} {l : List Int} (hp : PdD h g b c K b3 sd sg v l) : CurI g b c K := hp.2.2.1
theorem PdD.one_ {h g : H} {b K b3 : Nat} {c : Option (List UInt8)} {sd sg : Int} {v : AV} {l : List Int} (hp : PdD h g b c K b3 sd sg v l) : one v = true ∧ cellsOf v = [v] := by
  obtain ⟨p1, p2, p3, p4, p5, p6, Bv, p7, p8⟩ := hp
  exact p7.one_
theorem PdD.lenA {h g : H} {b K b3 : Nat} {c : Option (List UInt8)} {sd sg : Int} {v : AV} {l : List Int} (hp : PdD h g b c K b3 sd sg v l) : lenA v = some (.int .i64 l.length) := by
  obtain ⟨p1, p2, p3, p4, p5, p6, Bv, h3, p8⟩ := hp
  rcases h3.2 with ⟨rfl, h0, _⟩ | ⟨b, rfl, _, _⟩
  · rw [h0]; rfl
  · rfl
theorem PdD.box {h g : H} {b K b3 : Nat} {c : Option (List UInt8)} {sd sg : Int} {v : AV} {l : List Int} (hp : PdD h g b c K b3 sd sg v l) (sd' sg' : Int) : PdD h (wr g b3 [.int .i64 sd', .int .i64 sg', v]) b c K b3 sd' sg' v l := by
  obtain ⟨p1, p2, p3, p4, p5, p6, Bv, p7, p8⟩ := hp
  have hw : ∀ k, k ≠ b3 → (wr g b3 [AV.int .i64 sd', .int .i64 sg', v])[k]? = g[k]? := fun k hk => by
    unfold wr
    rw [List.getElem?_set_ne (Ne.symm hk)]
  exact ⟨p1, p2, p3.frame (hw _ (by omega)), cells_keep (hw _ (by omega)) p4, ⟨by simpa [wr] using p5.1, fun k hk hn => (hw _ (by omega)).trans (p5.2 k hk hn)⟩, cells_wr2 (cells_lt p6), Bv, p7.frame fun k hk => hw _ (p8 k hk).2, p8⟩
theorem PdD.app {h g : H} {b K b3 : Nat} {c : Option (List UInt8)} {sd sg q : Int} {v : AV} {l : List Int} {pm : Nat → Prop} {Q : AV → H → Prop} (hp : PdD h g b c K b3 sd sg v l) (hpm : ∀ k, h.length ≤ k → pm k) (hN : l.length ≤ 1000000)
    (hQ : ∀ v' g2, PdD h (wr g2 b3 [.int .i64 sd, .int .i64 sg, v']) b c K b3 sd sg v' (l ++ [q]) → g2.cells b3 = some [.int .i64 sd, .int .i64 sg, v] → b3 < g2.length → one v' = true → cellsOf v' = [v'] → Q v' g2) : apA pm (g ++ [some (.cells [.int .i64 q])]) Q 1 8 (some ([.int .i64 q], 1)) v := by
  obtain ⟨p1, p2, p3, p4, p5, p6, Bv, p7, p8⟩ := hp
  have l0 := cells_lt p4
  have l3 := cells_lt p6
  refine (p7.frame (h' := g ++ _) fun k hk => List.getElem?_append_left (p7.lt k hk)).app0 (new := [.int .i64 q]) (k := 1) (by_ := 8) (fun k hk => hpm k (by have := (p8 k hk).1; omega)) rfl (by omega) fun w2 g2 B2 a1 a2 a3 a4 a5 => ?_
  simp only [List.length_append, List.length_cons, List.length_nil] at a2 a3 a4
  have hk2 : ∀ k, k < g.length → k ∉ Bv → g2[k]? = g[k]? := fun k hk hn => (a3 k (by omega) hn).trans (List.getElem?_append_left hk)
  have hn3 : b3 ∉ Bv := fun hb => (p8 _ hb).2 rfl
  have hnl : ∀ k, k ≤ h.length → k ∉ Bv := fun k hk hb => by have := (p8 _ hb).1; omega
  have hwk : ∀ k, k ≠ b3 → (wr g2 b3 [.int .i64 sd, .int .i64 sg, w2])[k]? = g2[k]? := fun k hk => by
    unfold wr
    rw [List.getElem?_set_ne (Ne.symm hk)]
  have hB2 : ∀ k ∈ B2, h.length + 1 ≤ k ∧ k ≠ b3 := fun k hk => by
    rcases a4 k hk with h5 | h5
    · exact p8 k h5
    · exact ⟨by omega, by omega⟩
  have ho := a1.one_
  refine hQ w2 g2 ⟨p1, p2, p3.frame ((hwk _ (by omega)).trans (hk2 _ (by omega) (hnl _ (by omega)))), cells_keep ((hwk _ (by omega)).trans (hk2 _ l0 (hnl _ (Nat.le_refl _)))) p4, ⟨by simp [wr]; omega, fun k hk hn => (hwk _ (by omega)).trans ((hk2 _ (by omega) (hnl _ (by omega))).trans (p5.2 k hk hn))⟩, cells_wr2 (by omega), B2, ?_, hB2⟩ (cells_keep (hk2 _ l3 hn3) p6) (by omega) ho.1 ho.2
  have := a1.frame (h' := wr g2 b3 [.int .i64 sd, .int .i64 sg, w2]) fun k hk => hwk k (hB2 k hk).2
  simpa using this
theorem PdD.cellAt {h g : H} {b K b3 : Nat} {c : Option (List UInt8)} {sd sg : Int} {v : AV} {l : List Int} (hp : PdD h g b c K b3 sd sg v l) (hl : 0 < l.length) : ∃ bv, v = .sl bv 0 1 l.length l.length ∧ g.cells bv = some (l.map (.int .i64)) ∧ h.length + 1 ≤ bv ∧ ∀ (i : Nat) q, PdD h (wr g bv ((l.set i q).map (.int .i64))) b c K b3 sd sg v (l.set i q) := by
  obtain ⟨p1, p2, p3, p4, p5, p6, Bv, p7, p8⟩ := hp
  rcases p7.2 with ⟨_, h0, _⟩ | ⟨bv, rfl, rfl, hc⟩
  · omega
  have hb := p8 bv (by simp)
  refine ⟨bv, rfl, hc, hb.1, fun i q => ?_⟩
  have hw : ∀ (cs : List AV) k, k ≠ bv → (wr g bv cs)[k]? = g[k]? := fun cs k hk => by
    unfold wr
    rw [List.getElem?_set_ne (Ne.symm hk)]
  refine ⟨p1, p2, p3.frame (hw _ _ (by omega)), cells_keep (hw _ _ (by omega)) p4, ⟨by simpa [wr] using p5.1, fun k hk hn => (hw _ _ (by omega)).trans (p5.2 k hk hn)⟩, cells_keep (hw _ _ (Ne.symm hb.2)) p6, [bv], ?_, p8⟩
  rw [List.length_set]
  exact ⟨by simp, .inr ⟨bv, rfl, rfl, cells_wr2 (cells_lt hc)⟩⟩
/-- What is seen of it, once it is in the result's box. -/
theorem PdD.fin {h g : H} {b K b3 : Nat} {c : Option (List UInt8)} {sd sg : Int} {v : AV} {l : List Int} (hp : PdD h g b c K b3 sd sg v l) : ∃ t, Vw (wr g h.length [.int .i64 sd, .int .i64 sg, v]) h.length (.agg [.int .i64 sd, .int .i64 sg, v]) t ∧ (∃ o : Option (List Int), t = eP ⟨sd, sg, o⟩ ∧ lI o = l) ∧ CurF h (wr g h.length [.int .i64 sd, .int .i64 sg, v]) b c K := by
  obtain ⟨p1, p2, p3, p4, p5, p6, Bv, p7, p8⟩ := hp
  have hw : ∀ (cs : List AV) k, k ≠ h.length → (wr g h.length cs)[k]? = g[k]? := fun cs k hk => by
    unfold wr
    rw [List.getElem?_set_ne (Ne.symm hk)]
  obtain ⟨o, ho, hol⟩ := (p7.frame (h' := wr g h.length [.int .i64 sd, .int .i64 sg, v]) fun k hk => hw _ k (by have := (p8 k hk).1; omega)).vwInt9 (n0 := h.length) fun k hk => by have := (p8 k hk).1; omega
  refine ⟨eP ⟨sd, sg, o⟩, .agg rfl fun j y t hy ht => ?_, ⟨o, rfl, hol⟩, by simpa [wr] using p5.1, fun k hk hn => (hw _ k (by omega)).trans (p5.2 k hk hn), p3.frame (hw _ _ (by omega))⟩
  rcases j with _ | _ | _ | j
  · simp [cP] at hy ht
    subst hy ht
    exact .free free_int
  · simp [cP] at hy ht
    subst hy ht
    exact .free free_int
  · simp [cP] at hy ht
    subst hy ht
    exact ho
  · simp at hy
theorem PdD.reset {h g : H} {b K b3 : Nat} {c : Option (List UInt8)} {sd sg : Int} {v : AV} {l : List Int} (hp : PdD h g b c K b3 sd sg v l) (sd' sg' : Int) : PdD h (wr g b3 [.int .i64 sd', .int .i64 sg', .nils]) b c K b3 sd' sg' .nils [] := by
  obtain ⟨p1, p2, p3, p4, p5, p6, Bv, p7, p8⟩ := hp
  have hw : ∀ k, k ≠ b3 → (wr g b3 [AV.int .i64 sd', .int .i64 sg', .nils])[k]? = g[k]? := fun k hk => by
    unfold wr
    rw [List.getElem?_set_ne (Ne.symm hk)]
  exact ⟨p1, p2, p3.frame (hw _ (by omega)), cells_keep (hw _ (by omega)) p4, ⟨by simpa [wr] using p5.1, fun k hk hn => (hw _ (by omega)).trans (p5.2 k hk hn)⟩, cells_wr2 (cells_lt p6), [], S1.nil, by simp⟩
theorem PdD.vwP {h g : H} {b K b3 : Nat} {c : Option (List UInt8)} {sd sg : Int} {v : AV} {l : List Int} (hp : PdD h g b c K b3 sd sg v l) : ∃ o : Option (List Int), Vw g 0 (.agg [.int .i64 sd, .int .i64 sg, v]) (eP ⟨sd, sg, o⟩) ∧ lI o = l := by
  obtain ⟨p1, p2, p3, p4, p5, p6, Bv, p7, p8⟩ := hp
  obtain ⟨o, ho, hol⟩ := p7.vwInt9 (n0 := 0) fun k _ => Nat.zero_le _
  refine ⟨o, .agg rfl fun j y t hy ht => ?_, hol⟩
  rcases j with _ | _ | _ | j
  · simp [cP] at hy ht
    subst hy ht
    exact .free free_int
  · simp [cP] at hy ht
    subst hy ht
    exact .free free_int
  · simp [cP] at hy ht
    subst hy ht
    exact ho
  · simp at hy

def InM (sd sg : Int) (l : List Int) : Prop := (-1 ≤ sd ∧ sd ≤ 10000) ∧ (-1 ≤ sg ∧ sg ≤ 30) ∧ ∀ x ∈ l, -1 ≤ x ∧ x ≤ 5
theorem InM.set {sd sg q : Int} {l : List Int} {m : Nat} (h : InM sd sg l) (h1 : -1 ≤ q) (h2 : q ≤ 5) : InM sd sg (l.set m q) := ⟨h.1, h.2.1, fun x hx => by
  rcases List.mem_or_eq_of_mem_set hx with h5 | h5
  · exact h.2.2 x h5
  · rw [h5]
    exact ⟨h1, h2⟩⟩
theorem all_snoc {l : List Int} {q : Int} (h : ∀ x ∈ l, -1 ≤ x ∧ x ≤ 5) (h1 : -1 ≤ q) (h2 : q ≤ 5) : ∀ x ∈ l ++ [q], -1 ≤ x ∧ x ≤ 5 := fun x hx => by
  rcases List.mem_append.1 hx with h5 | h5
  · exact h x h5
  · rw [List.mem_singleton.1 h5]
    exact ⟨h1, h2⟩
theorem ow_pdE {h : H} {x : AV} {p : Pd} {q : Bool} {G : Nat → Prop} (ho : Ow h [x] [.tup [eP p, .bool q]] G) : ∃ v B, x = .tup [.agg [.int .i64 p.seed, .int .i64 p.seg, v], .bool q] ∧ S1 h 1 v (lI p.marks).length ((lI p.marks).map (.int .i64)) B ∧ ∀ k ∈ B, G k := by
  obtain ⟨cs, rfl, h1⟩ := Ow.openTup ho
  have hl : cs.length = 2 := h1.len.symm
  match cs, hl, h1 with
  | [x1, x2], _, h1 =>
    obtain ⟨F, F', f1, h2, e1, e2⟩ := h1.uncons
    have a2 : x2 = .bool q := h2.atomOf rfl
    subst a2
    obtain ⟨ds, rfl, k1⟩ := Ow.openAgg (show Ow h [x1] [.agg (cP p)] F from f1)
    have hl2 : ds.length = 3 := k1.len.symm
    match ds, hl2, k1 with
    | [y1, y2, y3], _, k1 =>
      obtain ⟨_, G2, g1, k2, _, i2⟩ := k1.uncons
      obtain ⟨_, G3, g2, k3, _, i3⟩ := k2.uncons
      have b1 : y1 = .int .i64 p.seed := g1.atomOf rfl
      have b2 : y2 = .int .i64 p.seg := g2.atomOf rfl
      subst b1 b2
      have hsub : ∀ c, G3 c → G c := fun c hc => e1 c (i2 c (i3 c hc).1).1
      cases hm : p.marks with
      | none =>
        rw [hm] at k3
        have b3 : y3 = .nils := k3.atomOf rfl
        subst b3
        exact ⟨.nils, [], rfl, S1.nil, by simp⟩
      | some l =>
        rw [hm] at k3
        obtain ⟨b, rfl, hb, hc⟩ := ow_intsP k3
        exact ⟨_, [b], rfl, ⟨by simp [lI], .inr ⟨b, rfl, rfl, hc⟩⟩, by simpa using hsub b hb⟩
theorem c_spec_l1Cur_keysF (b : Nat) (c : Option (List UInt8)) (K : Nat) (h : H) (most : Nat) (hcu : CurI h b c K) (hK : K ≤ 10000000) (h1m : 1 ≤ most) (hm : most ≤ 40) :
    Call Tryz.prog 39 [.adr b 0, .int .i64 most] h (fun b' => b' = b) (fun x g => (∃ o : Option (List Str), x = eS o ∧ (lS o).length ≤ most) ∧ CurF h g b c (K + 300)) :=
  Call.cur hcu.lt ((c_spec_l1Cur_keys_x b c K h most hcu hK h1m hm).mono (fun x g hx => by
    obtain ⟨l, hG, hl, _⟩ := hx
    obtain ⟨f1, f2, B, f3, f4⟩ := hG
    obtain ⟨o, ho, hol⟩ := f3.vwS0 f4
    exact ⟨_, ho, ⟨o, rfl, by rw [hol]; exact hl⟩, f1⟩) (fun _ _ h => h))
set_option maxHeartbeats 4000000 in
theorem c_spec_l1Cur_peeled (b : Nat) (c : Option (List UInt8)) (K : Nat) (h : H) (hcu : CurI h b c K) (hK : K ≤ 100000) :
    Call Tryz.prog 16 [.adr b 0] h (fun b' => b' = b) (fun x g => (∃ (p : Pd) (o : Option (List Str)), x = .tup [eP p, eS o] ∧ (lI p.marks).length ≤ 100 ∧ InM p.seed p.seg (lI p.marks)) ∧ CurF h g b c (K + 600)) := by
  refine Call.cur hcu.lt ?_
  refine enter (by kernel_rfl) e16 (by kernel_rfl) rfl fun hok => ?_
  simp only [r16, initEnv_1]
  have hbl := hcu.lt
  generalize hB2 : RCode.block 2 _ = B2
  generalize hIF : RCode.seq (.reg (⟨some 22, _, _⟩ :: _)) _ = IFC
  (try (simp (disch := first | omega | (simp <;> omega) | fail) only [push_cast, ↓reduceIte, Nat.reduceEqDiff, Nat.reduceAdd, Nat.reduceMul, Nat.reduceSub, Nat.reduceLT, Int.reduceToNat]))
  refine (c_spec_l1Cur_keysF b c K (h ++ [some (.cells [.int .i64 0, .int .i64 0, .nils])]) 9 (hcu.frame (List.getElem?_append_left hbl)) (by omega) (by omega) (by omega)).mono (fun x h1 hx => ?_) (fun b' _ hb' => Or.inl hb')
  obtain ⟨⟨ks, rfl, hkl⟩, hF1⟩ := hx
  obtain ⟨ng, hng⟩ : ∃ ng : Nat, ng = 1 + (lS ks).length := ⟨_, rfl⟩
  have hngc : (1 : Int) + ((lS ks).length : Int) = (ng : Int) := by omega
  (try (simp (disch := first | omega | (simp <;> omega) | fail) only [push_cast, ↓reduceIte, Nat.reduceEqDiff, Nat.reduceAdd, Nat.reduceMul, Nat.reduceSub, Nat.reduceLT, Int.reduceToNat, hngc]))
  refine (c_spec_l1Cur_pick b c _ h1 20 hF1.2.2 (by omega) (by omega) (by omega)).mono (fun x h2 hx => ?_) (fun b' _ hb' => Or.inl hb')
  obtain ⟨⟨sd, rfl, sd0, sd1⟩, hs2⟩ := hx
  have hF2 := hF1.trans hs2.f
  (try (simp (disch := first | omega | (simp <;> omega) | fail) only [push_cast, ↓reduceIte, Nat.reduceEqDiff, Nat.reduceAdd, Nat.reduceMul, Nat.reduceSub, Nat.reduceLT, Int.reduceToNat, hngc]))
  have hbp := c_spec_BuildPeeled_o sd ks (ng : Int)
  have hbv : ∃ (p : Pd) (q : Bool), bpV sd (lS ks) (ng : Int) = .tup [eP p, .bool q] := by
    unfold bpV
    split
    · exact ⟨_, _, rfl⟩
    · exact ⟨_, _, rfl⟩
  obtain ⟨p0, q0, hbv⟩ := hbv
  rw [hbv] at hbp
  refine hbp.go fun x t g hR hx how => ?_
  subst hR
  obtain ⟨v, B, rfl, hS, hB⟩ := ow_pdE how
  have hlx := hx.len
  have hF3 : CurF (h ++ [some (.cells [.int .i64 0, .int .i64 0, .nils])]) g b c (K + 300 + 1) := by
    obtain ⟨l, rfl⟩ := hx
    exact hF2.more
  have hl2 := hF2.1
  simp only [List.length_append, List.length_cons, List.length_nil] at hl2
  have hT0 : PdD h (g ++ [some (.cells [.int .i64 p0.seed, .int .i64 p0.seg, v])]) b c (K + 300 + 1) g.length p0.seed p0.seg v (lI p0.marks) :=
    ⟨hbl, by omega, hF3.2.2.frame (List.getElem?_append_left hF3.2.2.lt), cells_app (hF3.cells (k := h.length) (by rw [cells_h0]; rfl) (by omega)), ⟨by simp; omega, fun k hk hn => (List.getElem?_append_left (by omega)).trans ((hF3.2.1 k (by simp; omega) hn).trans (List.getElem?_append_left hk))⟩, by rw [cells_h0]; rfl, B, hS.frame fun k hk => List.getElem?_append_left (hS.lt k hk), fun k hk => ⟨by have := (hB k hk).1; omega, by have := (hB k hk).2; omega⟩⟩
  have o12 := hS.one_
  (try (simp (disch := first | omega | (simp <;> omega) | fail) only [push_cast, ↓reduceIte, Nat.reduceEqDiff, Nat.reduceAdd, Nat.reduceMul, Nat.reduceSub, Nat.reduceLT, Int.reduceToNat, o12.1, o12.2]))
  generalize g ++ [some (.cells [.int .i64 p0.seed, .int .i64 p0.seg, v])] = g0 at *
  have hb3 : g.length = g.length := rfl
  obtain ⟨b3, hb3⟩ : ∃ b3, b3 = g.length := ⟨_, rfl⟩
  rw [← hb3] at hT0 ⊢
  clear hF1 hF2 hF3 hs2 hbp hbv how hS hB hx hlx hb3
  refine T_cut (fun e g => Pins e [(0, .adr b 0), (2, .adr h.length 0), (4, eS ks), (6, .adr b3 0)] ∧ ∃ sd sg v l, PdD h g b c (K + 500) b3 sd sg v l ∧ 3 ≤ l.length ∧ l.length ≤ 90 ∧ InM sd sg l) ?_ ?_
  · rw [← hIF]
    clear hIF hB2
    have c3 := hT0.at3
    obtain ⟨oL, hvw, hoL⟩ := hT0.vwP
    have hok0 : okPd ⟨p0.seed, p0.seg, oL⟩ = true → 3 ≤ (lI p0.marks).length ∧ (lI p0.marks).length ≤ 90 ∧ InM p0.seed p0.seg (lI p0.marks) := fun h5 => by
      simp only [okPd, Bool.and_eq_true, decide_eq_true_eq] at h5
      rw [hoL] at h5
      obtain ⟨⟨b1, b2⟩, ⟨b3, b4⟩, b5, b6⟩ := h5
      exact ⟨by omega, by omega, ⟨by omega, by omega⟩, ⟨by omega, by omega⟩, fun x hx => by
        have := okMarks_iff.1 b6 x hx
        omega⟩
    (try (simp (disch := first | omega | (simp <;> omega) | fail) only [push_cast, ↓reduceIte, Nat.reduceEqDiff, Nat.reduceAdd, Nat.reduceMul, Nat.reduceSub, Nat.reduceLT, Int.reduceToNat, c3, o12.1, o12.2]))
    refine (c_spec_pfPeeled ⟨p0.seed, p0.seg, oL⟩).lendL (.cons hvw .nil) own_bool ?_
    cases hk : okPd ⟨p0.seed, p0.seg, oL⟩
    · have hTx := hT0.mono (K' := K + 310) (by omega)
      (try (simp (disch := first | omega | (simp <;> omega) | fail) only [push_cast, ↓reduceIte, Nat.reduceEqDiff, Nat.reduceAdd, Nat.reduceMul, Nat.reduceSub, Nat.reduceLT, Int.reduceToNat]))
      refine (c_spec_l1Cur_seed9 b c _ _ hTx.cur (by omega)).mono (fun x g2 hx => ?_) (fun b' _ hb' => Or.inl hb')
      obtain ⟨⟨sd2, rfl, sd20, sd21⟩, hF⟩ := hx
      have hTy := hTx.keep hF
      have c4 := hTy.at3
      have hTz := hTy.reset sd2 (ng : Int)
      have hb30 : h.length + 1 ≤ b3 := hTy.2.1
      have hpm3 : (h.length ≤ b3) = True := eq_true (by omega)
      (try (simp (disch := first | omega | (simp <;> omega) | fail) only [push_cast, ↓reduceIte, Nat.reduceEqDiff, Nat.reduceAdd, Nat.reduceMul, Nat.reduceSub, Nat.reduceLT, Int.reduceToNat, c4, hpm3, reads, List.mem_cons, List.mem_append, List.not_mem_nil, nat_ff, or_self, or_false, false_or, not_false_eq_true]))
      generalize wr g2 b3 [.int .i64 sd2, .int .i64 (ng : Int), .nils] = g3 at *
      refine T_for (3 * ng) (fun i e g => ∃ v l, Pins e [(0, .adr b 0), (2, .adr h.length 0), (4, eS ks), (5, .int .i64 ng), (6, .adr b3 0), (8, .int .i64 i)] ∧ (PdD h g b c (K + 310 + 4 + i) b3 sd2 (ng : Int) v l ∧ l.length = i ∧ ∀ x ∈ l, -1 ≤ x ∧ x ≤ 5)) ?_ ?_
      · refine ⟨.nils, [], ?_⟩
        (try (simp (disch := first | omega | (simp <;> omega) | fail) only [push_cast, ↓reduceIte, Nat.reduceEqDiff, Nat.reduceAdd, Nat.reduceMul, Nat.reduceSub, Nat.reduceLT, Int.reduceToNat]))
        all_goals (try exact ⟨hTz, rfl, by simp⟩)
        all_goals (first | exact ⟨hTz, by simp⟩ | exact hTz | skip)
        done
      rintro i e g hi ⟨v, l, hp, hT, hll, hxl⟩
      refine T_pins hp fun e => ?_
      have c5 := hT.at3
      by_cases hin : i < 3 * ng
      · have e1 : ((i : Int) < 3 * (ng : Int)) = True := eq_true (by omega)
        (try (simp (disch := first | omega | (simp <;> omega) | fail) only [push_cast, ↓reduceIte, Nat.reduceEqDiff, Nat.reduceAdd, Nat.reduceMul, Nat.reduceSub, Nat.reduceLT, Int.reduceToNat, e1, c5, reads, List.mem_cons, List.mem_append, List.not_mem_nil, nat_ff, or_self, or_false, false_or, not_false_eq_true]))
        repeat' (with_reducible refine And.intro ?_ ?_)
        all_goals
          refine (c_spec_l1Cur_pick b c _ g 4 hT.cur (by omega) (by omega) (by omega)).mono (fun x g4 hx => ?_) (fun b' _ hb' => Or.inl hb')
          obtain ⟨⟨q, rfl, q0, q1⟩, hs⟩ := hx
          have hT2 := hT.keep hs.f
          have c52 := hT2.at3
          have c53 : ∀ l' : H, H.cells (g4 ++ l') b3 = some [.int .i64 sd2, .int .i64 (ng : Int), v] := fun l' => cells_app c52
          (try (simp (disch := first | omega | (simp <;> omega) | fail) only [push_cast, ↓reduceIte, Nat.reduceEqDiff, Nat.reduceAdd, Nat.reduceMul, Nat.reduceSub, Nat.reduceLT, Int.reduceToNat, c52, c53, reads, List.mem_cons, List.mem_append, List.not_mem_nil, nat_ff, or_self, or_false, false_or, not_false_eq_true]))
          repeat' (with_reducible refine And.intro ?_ ?_)
          all_goals
            refine hT2.app (fun k hk => Or.inr hk) (by omega) fun v2 g5 hT3 c54 l4 o1 o2 => ?_
            (try (simp (disch := first | omega | (simp <;> omega) | fail) only [push_cast, ↓reduceIte, Nat.reduceEqDiff, Nat.reduceAdd, Nat.reduceMul, Nat.reduceSub, Nat.reduceLT, Int.reduceToNat, c54, o1, o2, hpm3, reads, List.mem_cons, List.mem_append, List.not_mem_nil, nat_ff, or_self, or_false, false_or, not_false_eq_true]))
            all_goals (try exact ⟨v2, _, hT3, by simp [hll], all_snoc hxl (by omega) (by omega)⟩)
            all_goals (try exact ⟨by omega, v2, _, hT3, by simp [hll], all_snoc hxl (by omega) (by omega)⟩)
            done
      · have e1 : ((i : Int) < 3 * (ng : Int)) = False := eq_false (by omega)
        have hT4 := hT.mono (K' := K + 500) (by omega)
        (try (simp (disch := first | omega | (simp <;> omega) | fail) only [push_cast, ↓reduceIte, Nat.reduceEqDiff, Nat.reduceAdd, Nat.reduceMul, Nat.reduceSub, Nat.reduceLT, Int.reduceToNat, e1]))
        all_goals (try exact ⟨_, _, _, _, hT4, by omega, by omega, ⟨by omega, by omega⟩, ⟨by omega, by omega⟩, hxl⟩)
        done
    · (try (simp (disch := first | omega | (simp <;> omega) | fail) only [push_cast, ↓reduceIte, Nat.reduceEqDiff, Nat.reduceAdd, Nat.reduceMul, Nat.reduceSub, Nat.reduceLT, Int.reduceToNat]))
      refine (c_spec_l1Cur_one b c _ g0 10 hT0.cur (by omega) (by omega) (by omega)).mono (fun x g1 hx => ?_) (fun b' _ hb' => Or.inl hb')
      obtain ⟨⟨t, rfl⟩, hs⟩ := hx
      cases t
      · have hT1 := (hT0.keep hs.f).mono (K' := K + 500) (by omega)
        obtain ⟨k3, k4, k5⟩ := hok0 hk
        (try (simp (disch := first | omega | (simp <;> omega) | fail) only [push_cast, ↓reduceIte, Nat.reduceEqDiff, Nat.reduceAdd, Nat.reduceMul, Nat.reduceSub, Nat.reduceLT, Int.reduceToNat]))
        all_goals (try exact ⟨_, _, _, _, hT1, k3, k4, k5⟩)
        done
      · have hTx := (hT0.keep hs.f).mono (K' := K + 310) (by omega)
        (try (simp (disch := first | omega | (simp <;> omega) | fail) only [push_cast, ↓reduceIte, Nat.reduceEqDiff, Nat.reduceAdd, Nat.reduceMul, Nat.reduceSub, Nat.reduceLT, Int.reduceToNat]))
        refine (c_spec_l1Cur_seed9 b c _ _ hTx.cur (by omega)).mono (fun x g2 hx => ?_) (fun b' _ hb' => Or.inl hb')
        obtain ⟨⟨sd2, rfl, sd20, sd21⟩, hF⟩ := hx
        have hTy := hTx.keep hF
        have c4 := hTy.at3
        have hTz := hTy.reset sd2 (ng : Int)
        have hb30 : h.length + 1 ≤ b3 := hTy.2.1
        have hpm3 : (h.length ≤ b3) = True := eq_true (by omega)
        (try (simp (disch := first | omega | (simp <;> omega) | fail) only [push_cast, ↓reduceIte, Nat.reduceEqDiff, Nat.reduceAdd, Nat.reduceMul, Nat.reduceSub, Nat.reduceLT, Int.reduceToNat, c4, hpm3, reads, List.mem_cons, List.mem_append, List.not_mem_nil, nat_ff, or_self, or_false, false_or, not_false_eq_true]))
        generalize wr g2 b3 [.int .i64 sd2, .int .i64 (ng : Int), .nils] = g3 at *
        refine T_for (3 * ng) (fun i e g => ∃ v l, Pins e [(0, .adr b 0), (2, .adr h.length 0), (4, eS ks), (5, .int .i64 ng), (6, .adr b3 0), (8, .int .i64 i)] ∧ (PdD h g b c (K + 310 + 4 + i) b3 sd2 (ng : Int) v l ∧ l.length = i ∧ ∀ x ∈ l, -1 ≤ x ∧ x ≤ 5)) ?_ ?_
        · refine ⟨.nils, [], ?_⟩
          (try (simp (disch := first | omega | (simp <;> omega) | fail) only [push_cast, ↓reduceIte, Nat.reduceEqDiff, Nat.reduceAdd, Nat.reduceMul, Nat.reduceSub, Nat.reduceLT, Int.reduceToNat]))
          all_goals (try exact ⟨hTz, rfl, by simp⟩)
          all_goals (first | exact ⟨hTz, by simp⟩ | exact hTz | skip)
          done
        rintro i e g hi ⟨v, l, hp, hT, hll, hxl⟩
        refine T_pins hp fun e => ?_
        have c5 := hT.at3
        by_cases hin : i < 3 * ng
        · have e1 : ((i : Int) < 3 * (ng : Int)) = True := eq_true (by omega)
          (try (simp (disch := first | omega | (simp <;> omega) | fail) only [push_cast, ↓reduceIte, Nat.reduceEqDiff, Nat.reduceAdd, Nat.reduceMul, Nat.reduceSub, Nat.reduceLT, Int.reduceToNat, e1, c5, reads, List.mem_cons, List.mem_append, List.not_mem_nil, nat_ff, or_self, or_false, false_or, not_false_eq_true]))
          repeat' (with_reducible refine And.intro ?_ ?_)
          all_goals
            refine (c_spec_l1Cur_pick b c _ g 4 hT.cur (by omega) (by omega) (by omega)).mono (fun x g4 hx => ?_) (fun b' _ hb' => Or.inl hb')
            obtain ⟨⟨q, rfl, q0, q1⟩, hs⟩ := hx
            have hT2 := hT.keep hs.f
            have c52 := hT2.at3
            have c53 : ∀ l' : H, H.cells (g4 ++ l') b3 = some [.int .i64 sd2, .int .i64 (ng : Int), v] := fun l' => cells_app c52
            (try (simp (disch := first | omega | (simp <;> omega) | fail) only [push_cast, ↓reduceIte, Nat.reduceEqDiff, Nat.reduceAdd, Nat.reduceMul, Nat.reduceSub, Nat.reduceLT, Int.reduceToNat, c52, c53, reads, List.mem_cons, List.mem_append, List.not_mem_nil, nat_ff, or_self, or_false, false_or, not_false_eq_true]))
            repeat' (with_reducible refine And.intro ?_ ?_)
            all_goals
              refine hT2.app (fun k hk => Or.inr hk) (by omega) fun v2 g5 hT3 c54 l4 o1 o2 => ?_
              (try (simp (disch := first | omega | (simp <;> omega) | fail) only [push_cast, ↓reduceIte, Nat.reduceEqDiff, Nat.reduceAdd, Nat.reduceMul, Nat.reduceSub, Nat.reduceLT, Int.reduceToNat, c54, o1, o2, hpm3, reads, List.mem_cons, List.mem_append, List.not_mem_nil, nat_ff, or_self, or_false, false_or, not_false_eq_true]))
              all_goals (try exact ⟨v2, _, hT3, by simp [hll], all_snoc hxl (by omega) (by omega)⟩)
              all_goals (try exact ⟨by omega, v2, _, hT3, by simp [hll], all_snoc hxl (by omega) (by omega)⟩)
              done
        · have e1 : ((i : Int) < 3 * (ng : Int)) = False := eq_false (by omega)
          have hT4 := hT.mono (K' := K + 500) (by omega)
          (try (simp (disch := first | omega | (simp <;> omega) | fail) only [push_cast, ↓reduceIte, Nat.reduceEqDiff, Nat.reduceAdd, Nat.reduceMul, Nat.reduceSub, Nat.reduceLT, Int.reduceToNat, e1]))
          all_goals (try exact ⟨_, _, _, _, hT4, by omega, by omega, ⟨by omega, by omega⟩, ⟨by omega, by omega⟩, hxl⟩)
          done
  clear hT0 hIF o12
  rintro e g3 ⟨hp, sd, sg, v, l, hT2, hl3, hl90, hIM⟩
  refine T_pins hp fun e => ?_
  have hb30 : h.length + 1 ≤ b3 := hT2.2.1
  have hpm3 : (h.length ≤ b3) = True := eq_true (by omega)
  (try (simp (disch := first | omega | (simp <;> omega) | fail) only [push_cast, ↓reduceIte, Nat.reduceEqDiff, Nat.reduceAdd, Nat.reduceMul, Nat.reduceSub, Nat.reduceLT, Int.reduceToNat]))
  refine (c_spec_l1Cur_pick b c _ g3 14 hT2.cur (by omega) (by omega) (by omega)).mono (fun x g4 hx => ?_) (fun b' _ hb' => Or.inl hb')
  obtain ⟨⟨k, rfl, k0, k1⟩, hs⟩ := hx
  have hT3 := hT2.keep hs.f
  have c3 := hT3.at3
  (try (simp (disch := first | omega | (simp <;> omega) | fail) only [push_cast, ↓reduceIte, Nat.reduceEqDiff, Nat.reduceAdd, Nat.reduceMul, Nat.reduceSub, Nat.reduceLT, Int.reduceToNat]))
  refine T_cut (fun e g => Pins e [(2, .adr h.length 0), (4, eS ks), (6, .adr b3 0)] ∧ ∃ sd sg v l, PdD h g b c (K + 600) b3 sd sg v l ∧ l.length ≤ 100 ∧ InM sd sg l) ?_ ?_
  · rw [← hB2]
    clear hB2
    by_cases z0 : k = 0
    · have hlv := hT3.lenA
      (try (simp (disch := first | omega | (simp <;> omega) | fail) only [push_cast, ↓reduceIte, Nat.reduceEqDiff, Nat.reduceAdd, Nat.reduceMul, Nat.reduceSub, Nat.reduceLT, Int.reduceToNat, z0, c3, hlv, reads, List.mem_cons, List.mem_append, List.not_mem_nil, nat_ff, or_self, or_false, false_or, not_false_eq_true]))
      repeat' (with_reducible refine And.intro ?_ ?_)
      all_goals
        refine (c_spec_l1Cur_pickAny b c _ g4 (l.length : Int) hT3.cur (by omega) (by omega)).mono (fun x g5 hx => ?_) (fun b' _ hb' => Or.inl hb')
        obtain ⟨⟨m, rfl, m0, m1⟩, hs5⟩ := hx
        obtain ⟨m, rfl⟩ : ∃ m' : Nat, m = (m' : Int) := ⟨m.toNat, by omega⟩
        have hml : m < l.length := by omega
        have hT4 := hT3.keep hs5.f
        have c4 := hT4.at3
        (try (simp (disch := first | omega | (simp <;> omega) | fail) only [push_cast, ↓reduceIte, Nat.reduceEqDiff, Nat.reduceAdd, Nat.reduceMul, Nat.reduceSub, Nat.reduceLT, Int.reduceToNat, c4, reads, List.mem_cons, List.mem_append, List.not_mem_nil, nat_ff, or_self, or_false, false_or, not_false_eq_true]))
        repeat' (with_reducible refine And.intro ?_ ?_)
        all_goals
          refine (c_spec_l1Cur_pick b c _ g5 6 hT4.cur (by omega) (by omega) (by omega)).mono (fun x g6 hx => ?_) (fun b' _ hb' => Or.inl hb')
          obtain ⟨⟨q, rfl, q0, q1⟩, hs6⟩ := hx
          have hT5 := hT4.keep hs6.f
          have c5 := hT5.at3
          obtain ⟨bv, hv, hcv, hbv, hput⟩ := hT5.cellAt (by omega)
          have hia : iaddrA 1 v (.int .i64 (m : Int)) = some (.adr bv m) := by
            rw [hv, iaddrA_sl (by omega) (by omega)]
            simp
          have hov : over (l.map (AV.int .i64)) m [.int .i64 (q - 1)] = (l.set m (q - 1)).map (.int .i64) := by rw [over_set (by simp; omega), List.map_set]
          have hll2 : (l.map (AV.int .i64)).length = l.length := by simp
          have hT6 := (hput m (q - 1)).mono (K' := K + 600) (by omega)
          have hpm4 : (h.length ≤ bv) = True := eq_true (by omega)
          (try (simp (disch := first | omega | (simp <;> omega) | fail) only [push_cast, ↓reduceIte, Nat.reduceEqDiff, Nat.reduceAdd, Nat.reduceMul, Nat.reduceSub, Nat.reduceLT, Int.reduceToNat, c5, hia, hcv, hov, hll2, hpm4, reads, List.mem_cons, List.mem_append, List.not_mem_nil, nat_ff, or_self, or_false, false_or, not_false_eq_true]))
          all_goals (try exact ⟨_, _, _, _, hT6, by simp; omega, hIM.set (by omega) (by omega)⟩)
          done
    by_cases z1 : k = 1
    · (try (simp (disch := first | omega | (simp <;> omega) | fail) only [push_cast, ↓reduceIte, Nat.reduceEqDiff, Nat.reduceAdd, Nat.reduceMul, Nat.reduceSub, Nat.reduceLT, Int.reduceToNat, z1]))
      refine (c_spec_l1Cur_segment b c _ g4 hT3.cur (by omega)).mono (fun x g5 hx => ?_) (fun b' _ hb' => Or.inl hb')
      obtain ⟨⟨sg2, rfl, sg20, sg21⟩, hF⟩ := hx
      have hT4 := hT3.keep hF
      have c4 := hT4.at3
      have hT5 := (hT4.box sd sg2).mono (K' := K + 600) (by omega)
      (try (simp (disch := first | omega | (simp <;> omega) | fail) only [push_cast, ↓reduceIte, Nat.reduceEqDiff, Nat.reduceAdd, Nat.reduceMul, Nat.reduceSub, Nat.reduceLT, Int.reduceToNat, c4, hpm3, reads, List.mem_cons, List.mem_append, List.not_mem_nil, nat_ff, or_self, or_false, false_or, not_false_eq_true]))
      all_goals (try exact ⟨_, _, _, _, hT5, by omega, hIM.1, ⟨by omega, by omega⟩, hIM.2.2⟩)
      done
    by_cases z2 : k = 2
    · (try (simp (disch := first | omega | (simp <;> omega) | fail) only [push_cast, ↓reduceIte, Nat.reduceEqDiff, Nat.reduceAdd, Nat.reduceMul, Nat.reduceSub, Nat.reduceLT, Int.reduceToNat, z2, c3, reads, List.mem_cons, List.mem_append, List.not_mem_nil, nat_ff, or_self, or_false, false_or, not_false_eq_true]))
      refine hT3.app (fun k hk => Or.inr hk) (by omega) fun v2 g5 hT4 c34 l4 o1 o2 => ?_
      have hT5 := hT4.mono (K' := K + 600) (by omega)
      (try (simp (disch := first | omega | (simp <;> omega) | fail) only [push_cast, ↓reduceIte, Nat.reduceEqDiff, Nat.reduceAdd, Nat.reduceMul, Nat.reduceSub, Nat.reduceLT, Int.reduceToNat, c34, o1, o2, hpm3, reads, List.mem_cons, List.mem_append, List.not_mem_nil, nat_ff, or_self, or_false, false_or, not_false_eq_true]))
      all_goals (try exact ⟨_, _, _, _, hT5, by simp; omega, hIM.1, hIM.2.1, all_snoc hIM.2.2 (by omega) (by omega)⟩)
      done
    have hT5 := hT3.mono (K' := K + 600) (by omega)
    (try (simp (disch := first | omega | (simp <;> omega) | fail) only [push_cast, ↓reduceIte, Nat.reduceEqDiff, Nat.reduceAdd, Nat.reduceMul, Nat.reduceSub, Nat.reduceLT, Int.reduceToNat, z0, z1, z2, reads, List.mem_cons, List.mem_append, List.not_mem_nil, nat_ff, or_self, or_false, false_or, not_false_eq_true]))
    all_goals (try exact ⟨_, _, _, _, hT5, by omega, hIM⟩)
    done
  · clear hB2
    rintro e g5 ⟨hp, sd, sg, v, l, hT4, hl100, hIM⟩
    refine K_pins hp fun e => ?_
    have c33 := hT4.at3
    have c0 := hT4.2.2.2.1
    have ho := hT4.one_
    have hw := fun cs => cells_wr2 (cells_lt c0) (cs := cs)
    have hpm : (h.length ≤ h.length) = True := by simp
    obtain ⟨t, ht, ⟨o, rfl, ho2⟩, hF⟩ := hT4.fin
    have hfin : ∃ t, Vw (wr g5 h.length [.int .i64 sd, .int .i64 sg, v]) h.length (.tup [.agg [.int .i64 sd, .int .i64 sg, v], eS ks]) t ∧ (∃ (p : Pd) (o : Option (List Str)), t = .tup [eP p, eS o] ∧ (lI p.marks).length ≤ 100 ∧ InM p.seed p.seg (lI p.marks)) ∧ CurF h (wr g5 h.length [.int .i64 sd, .int .i64 sg, v]) b c (K + 600) := ⟨_, vw_tupT ht (.free free_eS), ⟨⟨sd, sg, o⟩, ks, rfl, by show (lI o).length ≤ 100; rw [ho2]; exact hl100, by show InM sd sg (lI o); rw [ho2]; exact hIM⟩, hF⟩
    (try (simp (disch := first | omega | (simp <;> omega) | fail) only [push_cast, ↓reduceIte, Nat.reduceEqDiff, Nat.reduceAdd, Nat.reduceMul, Nat.reduceSub, Nat.reduceLT, Int.reduceToNat, c33, c0, hpm, hw, ho.1, ho.2]))
    all_goals (try exact hfin)
    done

theorem c_spec_DrawImageOfPeeled (c : Option (List UInt8)) : Fn Tryz.prog 6 [eU c] (fun x => ∃ p : Pd, x = eP p ∧ (lI p.marks).length ≤ 100 ∧ InM p.seed p.seg (lI p.marks)) := by
  refine Fn.froze_ fun h => ?_
  refine enter (by kernel_rfl) e6 (by kernel_rfl) rfl fun hok => ?_
  simp only [r6, initEnv_1]
  have hfb : fillA [.nils, .int .i64 0, .int .u64 0] [(0, 1, eU c)] = some [eU c, .int .i64 0, .int .u64 0] := by cases c <;> rfl
  (try (simp (disch := first | omega | (simp <;> omega) | fail) only [push_cast, ↓reduceIte, Nat.reduceEqDiff, Nat.reduceAdd, Nat.reduceMul, Nat.reduceSub, Nat.reduceLT, Int.reduceToNat, hfb]))
  refine (c_spec_l1Cur_peeled (h.length + 1) c 0 (h ++ [some (.cells [.int .i64 0, .int .i64 0, .nils]), some (.cells [eU c, .int .i64 0, .int .u64 0])]) ⟨0, 0, by rw [cells_hk]; rfl, Nat.le_refl _⟩ (by omega)).mono (fun x g0 hx => ?_) (fun b' _ hb' => Or.inr (Nat.le_trans (Nat.le_succ _) (Nat.le_of_eq hb'.symm)))
  obtain ⟨⟨p, o, rfl, hpl, hpm9⟩, hF⟩ := hx
  have c0 : g0.cells h.length = some [.int .i64 0, .int .i64 0, .nils] := hF.cells (k := h.length) (by rw [cells_h0]; rfl) (by omega)
  have hlg := hF.1
  simp only [List.length_append, List.length_cons, List.length_nil] at hlg
  have hw := fun cs => cells_wr2 (cells_lt c0) (cs := cs)
  have c0' : ∀ l, H.cells (g0 ++ l) h.length = some [.int .i64 0, .int .i64 0, .nils] := fun l => cells_app c0
  have hw2 := fun l cs => cells_wr2 (cells_lt (c0' l)) (cs := cs)
  have hpm : (h.length ≤ h.length) = True := by simp
  have hcb : H.cells (g0 ++ [some (.cells (cP p))]) g0.length = some (cP p) := by rw [cells_h0]; rfl
  have hfin : ∀ hh : H, ∃ t', Vw hh h.length (eP p) t' ∧ ∃ p : Pd, t' = eP p ∧ (lI p.marks).length ≤ 100 ∧ InM p.seed p.seg (lI p.marks) := fun hh => ⟨_, .free free_eP, p, rfl, hpl, hpm9⟩
  obtain ⟨sd, sg, mk⟩ := p
  (try (simp (disch := first | omega | (simp <;> omega) | fail) only [push_cast, ↓reduceIte, Nat.reduceEqDiff, Nat.reduceAdd, Nat.reduceMul, Nat.reduceSub, Nat.reduceLT, Int.reduceToNat, c0, hpm, hw, hw2, c0', hcb, reads, List.mem_cons, List.mem_append, List.not_mem_nil, nat_ff, or_self, or_false, false_or, not_false_eq_true]))
  all_goals (try exact hfin _)
  done

end Go.Proofs.YtbkcenkfecndjaaGreatDoor.M
