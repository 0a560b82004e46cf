/-
  What the functions return.
-/
import Derived.Test.YtdkgoaiodjokpaaGreatFy
import Derived.Test.YtdkgoaiodjokpaaGreatShelf
import Derived.Test.YtdkgoaiodjokpaaGreatCx
namespace Go.Proofs.YtdkgoaiodjokpaaGreat.M
open Go Go.RowKit
set_option linter.unusedVariables false
set_option linter.unusedSimpArgs false
set_option maxRecDepth 4000

theorem c_impl_in (n lo hi : Int) : Fn Tryz.prog 38 [.int .i64 n, .int .i64 lo, .int .i64 hi] (· = .bool (decide (lo ≤ n) && decide (n ≤ hi))) := by
  refine Fn.of free_bool fun h => ?_
  refine enter (by kernel_rfl) e38 (by kernel_rfl) rfl fun hok => ?_
  simp only [r38, initEnv_3]
  (try (simp (disch := first | omega | (simp <;> omega) | fail) only [push_cast, ↓reduceIte, Nat.reduceEqDiff, Nat.reduceAdd, Nat.reduceMul, Nat.reduceSub, Nat.reduceLT, Int.reduceToNat]))
  first | refine goC_split (fun hc => ?_) (fun hc => ?_) | refine cnd_split (fun hc => ?_) (fun hc => ?_)
  · (try (simp only [decide_eq_true_eq, decide_eq_false_iff_not, Bool.not_eq_true', Bool.not_eq_false', Bool.and_eq_true, Bool.or_eq_true, Int.not_lt, Int.not_le] at hc)); (try (simp (disch := first | omega | (simp <;> omega) | fail) only [push_cast, ↓reduceIte, Nat.reduceEqDiff, Nat.reduceAdd, Nat.reduceMul, Nat.reduceSub, Nat.reduceLT, Int.reduceToNat]))
    first | refine goC_split (fun hd => ?_) (fun hd => ?_) | refine cnd_split (fun hd => ?_) (fun hd => ?_)
    · (try (simp only [decide_eq_true_eq, decide_eq_false_iff_not, Bool.not_eq_true', Bool.not_eq_false', Bool.and_eq_true, Bool.or_eq_true, Int.not_lt, Int.not_le] at hd)); (try (simp (disch := first | omega | (simp <;> omega) | fail) only [push_cast, ↓reduceIte, Nat.reduceEqDiff, Nat.reduceAdd, Nat.reduceMul, Nat.reduceSub, Nat.reduceLT, Int.reduceToNat]))
    · (try (simp only [decide_eq_true_eq, decide_eq_false_iff_not, Bool.not_eq_true', Bool.not_eq_false', Bool.and_eq_true, Bool.or_eq_true, Int.not_lt, Int.not_le] at hd)); (try (simp (disch := first | omega | (simp <;> omega) | fail) only [push_cast, ↓reduceIte, Nat.reduceEqDiff, Nat.reduceAdd, Nat.reduceMul, Nat.reduceSub, Nat.reduceLT, Int.reduceToNat]))
  · (try (simp only [decide_eq_true_eq, decide_eq_false_iff_not, Bool.not_eq_true', Bool.not_eq_false', Bool.and_eq_true, Bool.or_eq_true, Int.not_lt, Int.not_le] at hc)); (try (simp (disch := first | omega | (simp <;> omega) | fail) only [push_cast, ↓reduceIte, Nat.reduceEqDiff, Nat.reduceAdd, Nat.reduceMul, Nat.reduceSub, Nat.reduceLT, Int.reduceToNat]))
    try simp

theorem c_impl_words (n : Int) (h0 : 0 ≤ n) (h1 : n ≤ 1000000000) : Fn Tryz.prog 155 [.int .i64 n] (· = .int .i64 ((n + 15) / 16)) := by
  refine Fn.of free_int fun h => ?_
  refine enter (by kernel_rfl) e155 (by kernel_rfl) rfl fun hok => ?_
  simp only [r155, initEnv_1]
  (try (simp (disch := first | omega | (simp <;> omega) | fail) only [push_cast, ↓reduceIte, Nat.reduceEqDiff, Nat.reduceAdd, Nat.reduceMul, Nat.reduceSub, Nat.reduceLT, Int.reduceToNat]))
  all_goals (try omega)

theorem c_impl_IsBits (b : Bt) : Fn Tryz.prog 139 [eB b] (· = .bool (okBt b)) := by
  refine Fn.of free_bool fun h => ?_
  refine enter (by kernel_rfl) e139 (by kernel_rfl) rfl fun hok => ?_
  simp only [r139, initEnv_1]
  have hlen := ok_eI ((okV_0 hok).agg (eI b.words) (by simp [cB]))
  (try (simp (disch := first | omega | (simp <;> omega) | fail) only [push_cast, ↓reduceIte, Nat.reduceEqDiff, Nat.reduceAdd, Nat.reduceMul, Nat.reduceSub, Nat.reduceLT, Int.reduceToNat]))
  unfold okBt
  refine (c_impl_in _ _ _).call ?_
  cases h1 : (decide (0 ≤ b.size) && decide (b.size ≤ 4096))
  · (try (simp (disch := first | omega | (simp <;> omega) | fail) only [push_cast, ↓reduceIte, Nat.reduceEqDiff, Nat.reduceAdd, Nat.reduceMul, Nat.reduceSub, Nat.reduceLT, Int.reduceToNat]))
  have h3 : 0 ≤ b.size ∧ b.size ≤ 4096 := by simpa using h1
  (try (simp (disch := first | omega | (simp <;> omega) | fail) only [push_cast, ↓reduceIte, Nat.reduceEqDiff, Nat.reduceAdd, Nat.reduceMul, Nat.reduceSub, Nat.reduceLT, Int.reduceToNat]))
  refine (c_impl_words b.size (by omega) (by omega)).call ?_
  (try (simp (disch := first | omega | (simp <;> omega) | fail) only [push_cast, ↓reduceIte, Nat.reduceEqDiff, Nat.reduceAdd, Nat.reduceMul, Nat.reduceSub, Nat.reduceLT, Int.reduceToNat]))
  first | refine goC_split (fun hc => ?_) (fun hc => ?_) | refine cnd_split (fun hc => ?_) (fun hc => ?_)
  · (try (simp only [decide_eq_true_eq, decide_eq_false_iff_not, Bool.not_eq_true', Bool.not_eq_false', Bool.and_eq_true, Bool.or_eq_true, Int.not_lt, Int.not_le] at hc)); (try (simp (disch := first | omega | (simp <;> omega) | fail) only [push_cast, ↓reduceIte, Nat.reduceEqDiff, Nat.reduceAdd, Nat.reduceMul, Nat.reduceSub, Nat.reduceLT, Int.reduceToNat]))
    all_goals (try simp [hc])
  (try (simp only [decide_eq_true_eq, decide_eq_false_iff_not, Bool.not_eq_true', Bool.not_eq_false', Bool.and_eq_true, Bool.or_eq_true, Int.not_lt, Int.not_le] at hc)); (try (simp (disch := first | omega | (simp <;> omega) | fail) only [push_cast, ↓reduceIte, Nat.reduceEqDiff, Nat.reduceAdd, Nat.reduceMul, Nat.reduceSub, Nat.reduceLT, Int.reduceToNat]))
  have hc2 : ((lI b.words).length : Int) = (b.size + 15) / 16 := by omega
  refine T_for (lI b.words).length (fun i e h' => Pins e [(1, .adr h.length 0), (20, eI b.words), (21, .int .i64 (lI b.words).length), (22, .int .i64 i)] ∧ (h.length < h'.length ∧ H.cells h' h.length = some (cB b)) ∧ okWords ((lI b.words).take i) = true) ?_ ?_
  · (try (simp (disch := first | omega | (simp <;> omega) | fail) only [push_cast, ↓reduceIte, Nat.reduceEqDiff, Nat.reduceAdd, Nat.reduceMul, Nat.reduceSub, Nat.reduceLT, Int.reduceToNat]))
    all_goals (try simp [okWords, cB])
  rintro i e h' hi ⟨hp, ⟨hlt, hbox⟩, ha⟩
  refine T_pins hp fun e => ?_
  (try (simp (disch := first | omega | (simp <;> omega) | fail) only [push_cast, ↓reduceIte, Nat.reduceEqDiff, Nat.reduceAdd, Nat.reduceMul, Nat.reduceSub, Nat.reduceLT, Int.reduceToNat, hbox]))
  first | refine goC_split (fun hd => ?_) (fun hd => ?_) | refine cnd_split (fun hd => ?_) (fun hd => ?_)
  · (try (simp only [decide_eq_true_eq, decide_eq_false_iff_not, Bool.not_eq_true', Bool.not_eq_false', Bool.and_eq_true, Bool.or_eq_true, Int.not_lt, Int.not_le] at hd)); (try (simp (disch := first | omega | (simp <;> omega) | fail) only [push_cast, ↓reduceIte, Nat.reduceEqDiff, Nat.reduceAdd, Nat.reduceMul, Nat.reduceSub, Nat.reduceLT, Int.reduceToNat]))
    have hi2 : i < (lI b.words).length := by omega
    (try (simp (disch := first | omega | (simp <;> omega) | fail) only [push_cast, ↓reduceIte, Nat.reduceEqDiff, Nat.reduceAdd, Nat.reduceMul, Nat.reduceSub, Nat.reduceLT, Int.reduceToNat, hbox]))
    refine (c_impl_in _ _ _).call ?_
    have hn : okWords ((lI b.words).take (i + 1)) = (decide (0 ≤ (lI b.words).getD i 0) && decide ((lI b.words).getD i 0 ≤ 65535)) := by
      unfold okWords at ha ⊢
      rw [List.take_add_one, List.all_append, ha]
      simp [hi2]
    cases hk : (decide (0 ≤ (lI b.words).getD i 0) && decide ((lI b.words).getD i 0 ≤ 65535))
    · have hno : okWords (lI b.words) = false := by
        unfold okWords
        rw [List.all_eq_false]
        exact ⟨(lI b.words).getD i 0, by simp [hi2], by rw [hk]; simp⟩
      (try (simp (disch := first | omega | (simp <;> omega) | fail) only [push_cast, ↓reduceIte, Nat.reduceEqDiff, Nat.reduceAdd, Nat.reduceMul, Nat.reduceSub, Nat.reduceLT, Int.reduceToNat, hbox]))
      rw [hno]
      all_goals (try simp)
    · (try (simp (disch := first | omega | (simp <;> omega) | fail) only [push_cast, ↓reduceIte, Nat.reduceEqDiff, Nat.reduceAdd, Nat.reduceMul, Nat.reduceSub, Nat.reduceLT, Int.reduceToNat, hbox]))
      rw [hn, hk]
      all_goals (try simp)
      all_goals (try exact hbox)
  · (try (simp only [decide_eq_true_eq, decide_eq_false_iff_not, Bool.not_eq_true', Bool.not_eq_false', Bool.and_eq_true, Bool.or_eq_true, Int.not_lt, Int.not_le] at hd)); (try (simp (disch := first | omega | (simp <;> omega) | fail) only [push_cast, ↓reduceIte, Nat.reduceEqDiff, Nat.reduceAdd, Nat.reduceMul, Nat.reduceSub, Nat.reduceLT, Int.reduceToNat]))
    have he : (lI b.words).take i = lI b.words := List.take_of_length_le (by omega)
    rw [he] at ha
    have hdec : decide (((lI b.words).length : Int) = (b.size + 15) / 16) = true := by simp [hc2]
    rw [ha]
    try rw [hdec]
    unfold lastOk
    by_cases hz : b.size % 16 = 0
    · (try (simp (disch := first | omega | (simp <;> omega) | fail) only [push_cast, ↓reduceIte, Nat.reduceEqDiff, Nat.reduceAdd, Nat.reduceMul, Nat.reduceSub, Nat.reduceLT, Int.reduceToNat, hbox, hz]))
      all_goals (try simp)
    · have hln : 1 ≤ (lI b.words).length := by omega
      have hm : 0 ≤ b.size % 16 ∧ b.size % 16 ≤ 15 := by omega
      (try (simp (disch := first | omega | (simp <;> omega) | fail) only [push_cast, ↓reduceIte, Nat.reduceEqDiff, Nat.reduceAdd, Nat.reduceMul, Nat.reduceSub, Nat.reduceLT, Int.reduceToNat, hbox, hz]))
      (first | refine goC_split (fun hc => ?_) (fun hc => ?_) | refine cnd_split (fun hc => ?_) (fun hc => ?_)) <;> ((try (simp (disch := first | omega | (simp <;> omega) | fail) only [push_cast, ↓reduceIte, Nat.reduceEqDiff, Nat.reduceAdd, Nat.reduceMul, Nat.reduceSub, Nat.reduceLT, Int.reduceToNat]))) <;> (try rw [hc])

theorem c_impl_Bits_at (ws : Option (List Int)) (B m i : Nat) (cs : List AV) (off : Nat) (h1 : cs[off + 1]? = some (eI ws)) (hw : lI ws = wordsN B m) (hi : i < 16 * m) (hm : m ≤ 1000000) : Fn Tryz.prog 62 [.rad cs off, .int .i64 i] (· = .bool (B.testBit i)) := by
  refine Fn.of free_bool fun h => ?_
  refine enter (by kernel_rfl) e62 (by kernel_rfl) rfl fun hok => ?_
  simp only [r62, initEnv_2]
  have hln : (lI ws).length = m := by rw [hw, wordsN_len]
  have hat := at_word hw hi
  (try (simp (disch := first | omega | (simp <;> omega) | fail) only [push_cast, ↓reduceIte, Nat.reduceEqDiff, Nat.reduceAdd, Nat.reduceMul, Nat.reduceSub, Nat.reduceLT, Int.reduceToNat, h1]))
  rw [← hat]
  (first | refine goC_split (fun hc => ?_) (fun hc => ?_) | refine cnd_split (fun hc => ?_) (fun hc => ?_)) <;> ((try (simp (disch := first | omega | (simp <;> omega) | fail) only [push_cast, ↓reduceIte, Nat.reduceEqDiff, Nat.reduceAdd, Nat.reduceMul, Nat.reduceSub, Nat.reduceLT, Int.reduceToNat]))) <;> (try rw [hc])

theorem c_slices_Sort_string {h : H} {b n : Nat} {l : List Str} (hc : h.cells b = some (l.map .str)) (hl : l.length = n) (hn : n ≤ 1000000) (hls : ∀ s ∈ l, s.length ≤ 9223372036854775807) :
    Call Tryz.prog 141 [.sl b 0 1 n n] h (fun b' => b' = b) (fun x h' => ∃ l' : List Str, (x = .tup [] ∧ l'.Perm l ∧ l'.Pairwise fun x y => Op.bytesLess y x = false) ∧ l'.length = n ∧ h' = wr h b (l'.map .str)) :=
  Call.sortStr (ρ := Tryz.sortM_ren) Tryz.sortM (canEnter_of Tryz.func141 (by kernel_rfl) (by kernel_rfl)) hc hl hn hls

def EnR (t : Tr) (P : List Str) (v : AV) : Prop := ∃ L : List Str, v = eS (some L) ∧ L.Perm (endsTo P (fun i => decide ((i : Int) < t.en.size) && atB t.en i) P.length) ∧ L.Pairwise fun x y => Op.bytesLess y x = false
theorem endsTo_le {P : List Str} {g : Nat → Bool} : ∀ {k : Nat}, (endsTo P g k).length ≤ k
  | 0 => by simp [endsTo]
  | k + 1 => by
    rw [endsTo_succ]
    have := endsTo_le (P := P) (g := g) (k := k)
    split
    · simp
      omega
    · omega
theorem endsTo_sub {P : List Str} {g : Nat → Bool} {k : Nat} (hk : k ≤ P.length) : ∀ s ∈ endsTo P g k, s ∈ P := fun s hs => by
  unfold endsTo at hs
  obtain ⟨i, hi, rfl⟩ := List.mem_map.1 hs
  have := List.mem_range.1 (List.mem_filter.1 hi).1
  simp [show i < P.length by omega]

theorem c_impl_Trie_ends_o (t : Tr) (o : Option (List Str)) (h2 : okBt t.en = true) (hP : (lS o).length ≤ 5000) : FnO Tryz.prog 92 [.rad (cTr t) 0, eS o] (EnR t (lS o)) := by
  intro h
  obtain ⟨⟨ss, sw⟩, ⟨es, ew⟩, lab⟩ := t
  obtain ⟨e1, e2, e3, e4⟩ := okBt_num h2
  simp only at e1 e2 e3 e4
  refine enter (by kernel_rfl) e92 (by kernel_rfl) rfl fun hok => ?_
  simp only [r92, initEnv_2]
  have hxl := ok_eS_str (okV_1 hok)
  obtain ⟨g, hg⟩ : ∃ g : Nat → Bool, g = fun i : Nat => decide ((i : Int) < es) && atB ⟨es, ew⟩ i := ⟨_, rfl⟩
  have hE : EnR ⟨⟨ss, sw⟩, ⟨es, ew⟩, lab⟩ (lS o) = fun v => ∃ L : List Str, v = eS (some L) ∧ L.Perm (endsTo (lS o) g (lS o).length) ∧ L.Pairwise fun x y => Op.bytesLess y x = false := by
    funext v
    unfold EnR
    rw [hg]
  rw [hE]
  clear hE
  have hat : ∀ i, atB ⟨es, ew⟩ i = (numW (lI ew)).testBit i := fun _ => rfl
  generalize hT : RCode.seq (.reg (⟨some 35, .v (.mov (.t 5)), none⟩ :: _)) _ = TL
  (try (simp (disch := first | omega | (simp <;> omega) | fail) only [push_cast, ↓reduceIte, Nat.reduceEqDiff, Nat.reduceAdd, Nat.reduceMul, Nat.reduceSub, Nat.reduceLT, Int.reduceToNat]))
  refine T_for (lS o).length (fun k e h' => ∃ v, Pins e [(0, .rad [.int .i64 ss, eI sw, .int .i64 es, eI ew, .str lab] 0), (5, v), (9, eS o), (10, .int .i64 (lS o).length), (11, .int .i64 k)] ∧ (GsI AV.str h.length h' v (endsTo (lS o) g k) ∧ v ≠ .nils)) ?_ ?_
  · refine ⟨.sl h.length 0 1 0 0, ?_⟩
    have hg0 : GsI AV.str h.length (h ++ [some (.cells [])]) (.sl h.length 0 1 0 0) [] := ⟨by simp, [h.length], ⟨rfl, .inr ⟨_, rfl, rfl, by rw [cells_h0]; rfl⟩⟩, by simp⟩
    (try (simp (disch := first | omega | (simp <;> omega) | fail) only [push_cast, ↓reduceIte, Nat.reduceEqDiff, Nat.reduceAdd, Nat.reduceMul, Nat.reduceSub, Nat.reduceLT, Int.reduceToNat]))
    all_goals (try exact ⟨hg0, by simp⟩)
    all_goals (try exact hg0)
  rintro k e h' hk ⟨v, hp, hs, hv⟩
  refine T_pins hp fun e => ?_
  (try (simp (disch := first | omega | (simp <;> omega) | fail) only [push_cast, ↓reduceIte, Nat.reduceEqDiff, Nat.reduceAdd, Nat.reduceMul, Nat.reduceSub, Nat.reduceLT, Int.reduceToNat]))
  first | refine goC_split (fun hc => ?_) (fun hc => ?_) | refine cnd_split (fun hc => ?_) (fun hc => ?_)
  · (try (simp only [decide_eq_true_eq, decide_eq_false_iff_not, Bool.not_eq_true', Bool.not_eq_false', Bool.and_eq_true, Bool.or_eq_true, Int.not_lt, Int.not_le] at hc)); (try (simp (disch := first | omega | (simp <;> omega) | fail) only [push_cast, ↓reduceIte, Nat.reduceEqDiff, Nat.reduceAdd, Nat.reduceMul, Nat.reduceSub, Nat.reduceLT, Int.reduceToNat]))
    have hk2 : k < (lS o).length := by omega
    obtain ⟨s, hsd⟩ : ∃ s, s = (lS o).getD k [] := ⟨_, rfl⟩
    have hnx : endsTo (lS o) g (k + 1) = if g k then endsTo (lS o) g k ++ [s] else endsTo (lS o) g k := by rw [endsTo_succ, hsd]
    have hle := @endsTo_le (lS o) g k
    (try (simp (disch := first | omega | (simp <;> omega) | fail) only [push_cast, ↓reduceIte, Nat.reduceEqDiff, Nat.reduceAdd, Nat.reduceMul, Nat.reduceSub, Nat.reduceLT, Int.reduceToNat, ← hsd]))
    by_cases c1 : (k : Int) < es
    · have c1' : ((k : Int) < es) = True := by simp; omega
      (try (simp (disch := first | omega | (simp <;> omega) | fail) only [push_cast, ↓reduceIte, Nat.reduceEqDiff, Nat.reduceAdd, Nat.reduceMul, Nat.reduceSub, Nat.reduceLT, Int.reduceToNat, c1']))
      refine (c_impl_Bits_at ew (numW (lI ew)) (lI ew).length k [.int .i64 ss, eI sw, .int .i64 es, eI ew, .str lab] 2 rfl e1 (by omega) (by omega)).call ?_
      rw [← hat k]
      have hgk : g k = atB ⟨es, ew⟩ k := by
        rw [hg]
        simp only
        rw [decide_eq_true c1, Bool.true_and]
      rw [← hgk]
      cases hb : g k
      · rw [hb, if_neg (by simp)] at hnx
        rw [← hnx] at hs
        (try (simp (disch := first | omega | (simp <;> omega) | fail) only [push_cast, ↓reduceIte, Nat.reduceEqDiff, Nat.reduceAdd, Nat.reduceMul, Nat.reduceSub, Nat.reduceLT, Int.reduceToNat]))
        all_goals (try exact ⟨_, rfl, hs, hv⟩)
        all_goals (try exact ⟨hs, hv⟩)
      · rw [hb, if_pos rfl] at hnx
        (try (simp (disch := first | omega | (simp <;> omega) | fail) only [push_cast, ↓reduceIte, Nat.reduceEqDiff, Nat.reduceAdd, Nat.reduceMul, Nat.reduceSub, Nat.reduceLT, Int.reduceToNat]))
        refine hs.app (by_ := 16) (fun c hc => by first | exact Or.inr (by omega) | exact ⟨Or.inr (by omega), by omega⟩) (by omega) (by decide) fun v' h'' q1 q2 q3 => ?_
        have hv2 : v' ≠ .nils := by
          obtain ⟨b, hb2, _⟩ := q1.at_ (by simp)
          rw [hb2]
          simp
        rw [← hnx] at q1
        (try (simp (disch := first | omega | (simp <;> omega) | fail) only [push_cast, ↓reduceIte, Nat.reduceEqDiff, Nat.reduceAdd, Nat.reduceMul, Nat.reduceSub, Nat.reduceLT, Int.reduceToNat]))
        all_goals (try exact ⟨_, rfl, q1, hv2⟩)
        all_goals (try exact ⟨q1, hv2⟩)
    · have c1' : ((k : Int) < es) = False := by simp; omega
      have hgk : g k = false := by
        rw [hg]
        simp only
        rw [decide_eq_false c1, Bool.false_and]
      rw [hgk, if_neg (by simp)] at hnx
      rw [← hnx] at hs
      (try (simp (disch := first | omega | (simp <;> omega) | fail) only [push_cast, ↓reduceIte, Nat.reduceEqDiff, Nat.reduceAdd, Nat.reduceMul, Nat.reduceSub, Nat.reduceLT, Int.reduceToNat, c1']))
      all_goals (try exact ⟨_, rfl, hs, hv⟩)
      all_goals (try exact ⟨hs, hv⟩)
  · (try (simp only [decide_eq_true_eq, decide_eq_false_iff_not, Bool.not_eq_true', Bool.not_eq_false', Bool.and_eq_true, Bool.or_eq_true, Int.not_lt, Int.not_le] at hc)); (try (simp (disch := first | omega | (simp <;> omega) | fail) only [push_cast, ↓reduceIte, Nat.reduceEqDiff, Nat.reduceAdd, Nat.reduceMul, Nat.reduceSub, Nat.reduceLT, Int.reduceToNat]))
    have hke : k = (lS o).length := by omega
    subst hke
    have hle := @endsTo_le (lS o) g (lS o).length
    have hsub := endsTo_sub (P := lS o) (g := g) (Nat.le_refl _)
    obtain ⟨hn0, B, hS, hB⟩ := hs
    rcases hS.2 with ⟨h5, _, _⟩ | ⟨b, hvb, hBb, hcb⟩
    · exact absurd h5 hv
    subst hvb
    have hb0 : h.length ≤ b := hB b (by rw [hBb]; simp)
    rw [← hT]
    (try (simp (disch := first | omega | (simp <;> omega) | fail) only [push_cast, ↓reduceIte, Nat.reduceEqDiff, Nat.reduceAdd, Nat.reduceMul, Nat.reduceSub, Nat.reduceLT, Int.reduceToNat]))
    refine (c_slices_Sort_string hcb rfl (by omega) (fun s hs5 => hxl s (hsub s hs5))).mono (fun x h2 hx => ?_) (fun b' _ hb' => Or.inr (by omega))
    obtain ⟨l', ⟨rfl, p1, p2⟩, p3, rfl⟩ := hx
    have hfin : ∃ t, Ow (wr h' b (l'.map .str)) [.sl b 0 1 (endsTo (lS o) g (lS o).length).length (endsTo (lS o) g (lS o).length).length] [t] (fun c => h.length ≤ c) ∧ ∃ L : List Str, t = eS (some L) ∧ L.Perm (endsTo (lS o) g (lS o).length) ∧ L.Pairwise fun x y => Op.bytesLess y x = false := by
      refine ⟨eS (some l'), ?_, l', rfl, p1, p2⟩
      have := ow_map (f := AV.str) (l := l') (G := fun c => h.length ≤ c) (fun _ => rfl) (cells_wr2 (cells_lt hcb) (cs := l'.map .str)) p3 hb0
      show Ow _ _ [AV.ro 1 (l'.map .str) l'.length] _
      rw [p3]
      exact this
    (try (simp (disch := first | omega | (simp <;> omega) | fail) only [push_cast, ↓reduceIte, Nat.reduceEqDiff, Nat.reduceAdd, Nat.reduceMul, Nat.reduceSub, Nat.reduceLT, Int.reduceToNat]))
    all_goals (try exact hfin)

theorem c_impl_IsKey (s : Str) : Fn Tryz.prog 58 [.str s] (· = .bool (okKey s)) := by
  refine Fn.of free_bool fun h => ?_
  refine enter (by kernel_rfl) e58 (by kernel_rfl) rfl fun hok => ?_
  simp only [r58, initEnv_1]
  have hlen := (okV_0 hok).str
  (try (simp (disch := first | omega | (simp <;> omega) | fail) only [push_cast, ↓reduceIte, Nat.reduceEqDiff, Nat.reduceAdd, Nat.reduceMul, Nat.reduceSub, Nat.reduceLT, Int.reduceToNat]))
  refine T_for s.length (fun i e h' => Pins e [(0, .str s), (5, .int .i64 s.length), (6, .int .i64 i)] ∧ h' = h ∧ (s.take i).all okByte = true) ?_ ?_
  · (try (simp (disch := first | omega | (simp <;> omega) | fail) only [push_cast, ↓reduceIte, Nat.reduceEqDiff, Nat.reduceAdd, Nat.reduceMul, Nat.reduceSub, Nat.reduceLT, Int.reduceToNat]))
    simp
  rintro i e h' hi ⟨hp, rfl, ha⟩
  refine T_pins hp fun e => ?_
  (try (simp (disch := first | omega | (simp <;> omega) | fail) only [push_cast, ↓reduceIte, Nat.reduceEqDiff, Nat.reduceAdd, Nat.reduceMul, Nat.reduceSub, Nat.reduceLT, Int.reduceToNat]))
  first | refine goC_split (fun hc => ?_) (fun hc => ?_) | refine cnd_split (fun hc => ?_) (fun hc => ?_)
  · (try (simp only [decide_eq_true_eq, decide_eq_false_iff_not, Bool.not_eq_true', Bool.not_eq_false', Bool.and_eq_true, Bool.or_eq_true, Int.not_lt, Int.not_le] at hc)); (try (simp (disch := first | omega | (simp <;> omega) | fail) only [push_cast, ↓reduceIte, Nat.reduceEqDiff, Nat.reduceAdd, Nat.reduceMul, Nat.reduceSub, Nat.reduceLT, Int.reduceToNat]))
    have hi : i < s.length := by omega
    have hn : (s.take (i + 1)).all okByte = okByte (s.getD i 0) := by
      rw [List.take_add_one, List.all_append, ha]
      simp [hi]
    have hf : okByte (s.getD i 0) = false → okKey s = false := fun hf => by
      unfold okKey
      rw [Bool.and_eq_false_iff]
      left
      rw [List.all_eq_false]
      refine ⟨s.getD i 0, by simp [hi], by rw [hf]; simp⟩
    (try (simp (disch := first | omega | (simp <;> omega) | fail) only [push_cast, ↓reduceIte, Nat.reduceEqDiff, Nat.reduceAdd, Nat.reduceMul, Nat.reduceSub, Nat.reduceLT, Int.reduceToNat]))
    first | refine goC_split (fun hc => ?_) (fun hc => ?_) | refine cnd_split (fun hc => ?_) (fun hc => ?_)
    · (try (simp only [decide_eq_true_eq, decide_eq_false_iff_not, Bool.not_eq_true', Bool.not_eq_false', Bool.and_eq_true, Bool.or_eq_true, Int.not_lt, Int.not_le] at hc)); (try (simp (disch := first | omega | (simp <;> omega) | fail) only [push_cast, ↓reduceIte, Nat.reduceEqDiff, Nat.reduceAdd, Nat.reduceMul, Nat.reduceSub, Nat.reduceLT, Int.reduceToNat]))
      rw [hf (by unfold okByte; simp only [Bool.and_eq_false_iff, decide_eq_false_iff_not]; omega)]
    · (try (simp only [decide_eq_true_eq, decide_eq_false_iff_not, Bool.not_eq_true', Bool.not_eq_false', Bool.and_eq_true, Bool.or_eq_true, Int.not_lt, Int.not_le] at hc)); (try (simp (disch := first | omega | (simp <;> omega) | fail) only [push_cast, ↓reduceIte, Nat.reduceEqDiff, Nat.reduceAdd, Nat.reduceMul, Nat.reduceSub, Nat.reduceLT, Int.reduceToNat]))
      (try (simp (disch := first | omega | (simp <;> omega) | fail) only [push_cast, ↓reduceIte, Nat.reduceEqDiff, Nat.reduceAdd, Nat.reduceMul, Nat.reduceSub, Nat.reduceLT, Int.reduceToNat]))
      first | refine goC_split (fun hd => ?_) (fun hd => ?_) | refine cnd_split (fun hd => ?_) (fun hd => ?_)
      · (try (simp only [decide_eq_true_eq, decide_eq_false_iff_not, Bool.not_eq_true', Bool.not_eq_false', Bool.and_eq_true, Bool.or_eq_true, Int.not_lt, Int.not_le] at hd)); (try (simp (disch := first | omega | (simp <;> omega) | fail) only [push_cast, ↓reduceIte, Nat.reduceEqDiff, Nat.reduceAdd, Nat.reduceMul, Nat.reduceSub, Nat.reduceLT, Int.reduceToNat]))
        rw [hf (by unfold okByte; simp only [Bool.and_eq_false_iff, decide_eq_false_iff_not]; omega)]
      · (try (simp only [decide_eq_true_eq, decide_eq_false_iff_not, Bool.not_eq_true', Bool.not_eq_false', Bool.and_eq_true, Bool.or_eq_true, Int.not_lt, Int.not_le] at hd)); (try (simp (disch := first | omega | (simp <;> omega) | fail) only [push_cast, ↓reduceIte, Nat.reduceEqDiff, Nat.reduceAdd, Nat.reduceMul, Nat.reduceSub, Nat.reduceLT, Int.reduceToNat]))
        (try (simp (disch := first | omega | (simp <;> omega) | fail) only [push_cast, ↓reduceIte, Nat.reduceEqDiff, Nat.reduceAdd, Nat.reduceMul, Nat.reduceSub, Nat.reduceLT, Int.reduceToNat]))
        rw [hn]
        unfold okByte
        simp only [Bool.and_eq_true, decide_eq_true_eq]
        omega
  · (try (simp only [decide_eq_true_eq, decide_eq_false_iff_not, Bool.not_eq_true', Bool.not_eq_false', Bool.and_eq_true, Bool.or_eq_true, Int.not_lt, Int.not_le] at hc)); (try (simp (disch := first | omega | (simp <;> omega) | fail) only [push_cast, ↓reduceIte, Nat.reduceEqDiff, Nat.reduceAdd, Nat.reduceMul, Nat.reduceSub, Nat.reduceLT, Int.reduceToNat]))
    have he : s.take i = s := List.take_of_length_le (by omega)
    rw [he] at ha
    have hk : okKey s = (decide (1 ≤ (s.length : Int)) && decide ((s.length : Int) ≤ 12)) := by
      unfold okKey
      rw [ha, Bool.true_and]
    rw [hk]
    refine (c_impl_in _ _ _).call ?_
    (try (simp (disch := first | omega | (simp <;> omega) | fail) only [push_cast, ↓reduceIte, Nat.reduceEqDiff, Nat.reduceAdd, Nat.reduceMul, Nat.reduceSub, Nat.reduceLT, Int.reduceToNat]))

theorem c_impl_AreKeys (a : Option (List Str)) : Fn Tryz.prog 36 [eS a] (· = .bool (okKeys (lS a))) := by
  refine Fn.of free_bool fun h => ?_
  refine enter (by kernel_rfl) e36 (by kernel_rfl) rfl fun hok => ?_
  simp only [r36, initEnv_1]
  have hlen := ok_eS (okV_0 hok)
  (try (simp (disch := first | omega | (simp <;> omega) | fail) only [push_cast, ↓reduceIte, Nat.reduceEqDiff, Nat.reduceAdd, Nat.reduceMul, Nat.reduceSub, Nat.reduceLT, Int.reduceToNat]))
  refine T_for (lS a).length (fun i e h' => Pins e [(0, eS a), (5, eS a), (6, .int .i64 (lS a).length), (7, .int .i64 i)] ∧ h' = h ∧ okKeysFrom (lS a) i = true) ?_ ?_
  · (try (simp (disch := first | omega | (simp <;> omega) | fail) only [push_cast, ↓reduceIte, Nat.reduceEqDiff, Nat.reduceAdd, Nat.reduceMul, Nat.reduceSub, Nat.reduceLT, Int.reduceToNat]))
    simp [okKeysFrom]
  rintro i e h' hi ⟨hp, rfl, ha⟩
  refine T_pins hp fun e => ?_
  (try (simp (disch := first | omega | (simp <;> omega) | fail) only [push_cast, ↓reduceIte, Nat.reduceEqDiff, Nat.reduceAdd, Nat.reduceMul, Nat.reduceSub, Nat.reduceLT, Int.reduceToNat]))
  first | refine goC_split (fun hc => ?_) (fun hc => ?_) | refine cnd_split (fun hc => ?_) (fun hc => ?_)
  · (try (simp only [decide_eq_true_eq, decide_eq_false_iff_not, Bool.not_eq_true', Bool.not_eq_false', Bool.and_eq_true, Bool.or_eq_true, Int.not_lt, Int.not_le] at hc)); (try (simp (disch := first | omega | (simp <;> omega) | fail) only [push_cast, ↓reduceIte, Nat.reduceEqDiff, Nat.reduceAdd, Nat.reduceMul, Nat.reduceSub, Nat.reduceLT, Int.reduceToNat]))
    have hi : i < (lS a).length := by omega
    have hf : okKeysFrom (lS a) (i + 1) = false → okKeys (lS a) = false := fun hf => by
      unfold okKeys
      rw [okKeysFrom_false (show i + 1 ≤ (lS a).length by omega) hf, Bool.false_and]
    (try (simp (disch := first | omega | (simp <;> omega) | fail) only [push_cast, ↓reduceIte, Nat.reduceEqDiff, Nat.reduceAdd, Nat.reduceMul, Nat.reduceSub, Nat.reduceLT, Int.reduceToNat]))
    refine (c_impl_IsKey _).call ?_
    (try (simp (disch := first | omega | (simp <;> omega) | fail) only [push_cast, ↓reduceIte, Nat.reduceEqDiff, Nat.reduceAdd, Nat.reduceMul, Nat.reduceSub, Nat.reduceLT, Int.reduceToNat]))
    cases hk : okKey ((lS a).getD i [])
    · (try (simp (disch := first | omega | (simp <;> omega) | fail) only [push_cast, ↓reduceIte, Nat.reduceEqDiff, Nat.reduceAdd, Nat.reduceMul, Nat.reduceSub, Nat.reduceLT, Int.reduceToNat]))
      rw [hf (by simp only [okKeysFrom, hk, Bool.false_and, Bool.and_false])]
    · (try (simp (disch := first | omega | (simp <;> omega) | fail) only [push_cast, ↓reduceIte, Nat.reduceEqDiff, Nat.reduceAdd, Nat.reduceMul, Nat.reduceSub, Nat.reduceLT, Int.reduceToNat]))
      first | refine goC_split (fun hc => ?_) (fun hc => ?_) | refine cnd_split (fun hc => ?_) (fun hc => ?_)
      · (try (simp only [decide_eq_true_eq, decide_eq_false_iff_not, Bool.not_eq_true', Bool.not_eq_false', Bool.and_eq_true, Bool.or_eq_true, Int.not_lt, Int.not_le] at hc)); (try (simp (disch := first | omega | (simp <;> omega) | fail) only [push_cast, ↓reduceIte, Nat.reduceEqDiff, Nat.reduceAdd, Nat.reduceMul, Nat.reduceSub, Nat.reduceLT, Int.reduceToNat]))
        (try (simp (disch := first | omega | (simp <;> omega) | fail) only [push_cast, ↓reduceIte, Nat.reduceEqDiff, Nat.reduceAdd, Nat.reduceMul, Nat.reduceSub, Nat.reduceLT, Int.reduceToNat]))
        first | refine goC_split (fun hd => ?_) (fun hd => ?_) | refine cnd_split (fun hd => ?_) (fun hd => ?_)
        · (try (simp (disch := first | omega | (simp <;> omega) | fail) only [push_cast, ↓reduceIte, Nat.reduceEqDiff, Nat.reduceAdd, Nat.reduceMul, Nat.reduceSub, Nat.reduceLT, Int.reduceToNat]))
          rw [hf (by
            rw [Bool.not_eq_true'] at hd
            simp only [okKeysFrom, hk, Bool.true_and, show i ≠ 0 by omega, decide_false, Bool.false_or, hd, Bool.and_false])]
        · (try (simp (disch := first | omega | (simp <;> omega) | fail) only [push_cast, ↓reduceIte, Nat.reduceEqDiff, Nat.reduceAdd, Nat.reduceMul, Nat.reduceSub, Nat.reduceLT, Int.reduceToNat]))
          rw [Bool.not_eq_false'] at hd
          simp only [okKeysFrom, ha, hk, Bool.true_and, hd, Bool.or_true]
      · (try (simp only [decide_eq_true_eq, decide_eq_false_iff_not, Bool.not_eq_true', Bool.not_eq_false', Bool.and_eq_true, Bool.or_eq_true, Int.not_lt, Int.not_le] at hc)); (try (simp (disch := first | omega | (simp <;> omega) | fail) only [push_cast, ↓reduceIte, Nat.reduceEqDiff, Nat.reduceAdd, Nat.reduceMul, Nat.reduceSub, Nat.reduceLT, Int.reduceToNat]))
        (try (simp (disch := first | omega | (simp <;> omega) | fail) only [push_cast, ↓reduceIte, Nat.reduceEqDiff, Nat.reduceAdd, Nat.reduceMul, Nat.reduceSub, Nat.reduceLT, Int.reduceToNat]))
        have : i = 0 := by omega
        subst this
        simp only [okKeysFrom, hk, Bool.true_and, decide_true, Bool.true_or]
  · (try (simp only [decide_eq_true_eq, decide_eq_false_iff_not, Bool.not_eq_true', Bool.not_eq_false', Bool.and_eq_true, Bool.or_eq_true, Int.not_lt, Int.not_le] at hc)); (try (simp (disch := first | omega | (simp <;> omega) | fail) only [push_cast, ↓reduceIte, Nat.reduceEqDiff, Nat.reduceAdd, Nat.reduceMul, Nat.reduceSub, Nat.reduceLT, Int.reduceToNat]))
    have he : i = (lS a).length := by omega
    subst he
    have hk : okKeys (lS a) = decide (((lS a).length : Int) ≤ 40) := by
      unfold okKeys
      rw [ha, Bool.true_and]
    rw [hk]
    (first | refine goC_split (fun hc => ?_) (fun hc => ?_) | refine cnd_split (fun hc => ?_) (fun hc => ?_)) <;> ((try (simp (disch := first | omega | (simp <;> omega) | fail) only [push_cast, ↓reduceIte, Nat.reduceEqDiff, Nat.reduceAdd, Nat.reduceMul, Nat.reduceSub, Nat.reduceLT, Int.reduceToNat]))) <;> (try rw [hc])

def compD (l : List Str) : List Str := ((List.range l.length).filter fun j => decide (j = 0) || decide (l.getD (j - 1) [] ≠ l.getD j [])).map fun j => l.getD j []
theorem compD_mem {l : List Str} {x : Str} : x ∈ compD l ↔ x ∈ l := by
  unfold compD
  rw [List.mem_map]
  constructor
  · rintro ⟨j, hj, rfl⟩
    have h1 := List.mem_range.1 (List.mem_filter.1 hj).1
    simp [h1]
  · intro hx
    have hl := List.idxOf_lt_length_of_mem hx
    have hg : l[l.idxOf x] = x := List.getElem_idxOf hl
    have hgd : l.getD (l.idxOf x) [] = x := by rw [List.getD_eq_getElem?_getD, List.getElem?_eq_getElem hl, hg]; rfl
    refine ⟨l.idxOf x, List.mem_filter.2 ⟨List.mem_range.2 hl, ?_⟩, hgd⟩
    rw [hgd]
    rcases Nat.eq_zero_or_pos (l.idxOf x) with h0 | h0
    · rw [h0]
      rfl
    · have : l.getD (l.idxOf x - 1) [] ≠ x := fun h5 => by
        have h6 : l.idxOf x - 1 < l.length := by omega
        rw [List.getD_eq_getElem?_getD, List.getElem?_eq_getElem h6] at h5
        simp only [Option.getD_some] at h5
        have h7 : l = l.take (l.idxOf x - 1) ++ x :: l.drop (l.idxOf x - 1 + 1) := by
          conv => lhs; rw [← List.take_append_drop (l.idxOf x - 1) l, List.drop_eq_getElem_cons h6, h5]
        have h8 : l.idxOf x ≤ l.idxOf x - 1 := by
          have : (l.take (l.idxOf x - 1) ++ x :: l.drop (l.idxOf x - 1 + 1)).idxOf x ≤ l.idxOf x - 1 := by
            generalize l.idxOf x - 1 = k at h6 ⊢
            rw [List.idxOf_append]
            split
            · rename_i h7
              have := List.idxOf_lt_length_of_mem h7
              rw [List.length_take] at this
              omega
            · rw [List.idxOf_cons_self, List.length_take]
              omega
          rw [← h7] at this
          exact this
        omega
      rw [decide_eq_true this, Bool.or_true]
theorem compD_pw {l : List Str} (h : l.Pairwise fun x y => ¬ nlt y x) : (compD l).Pairwise nlt := by
  unfold compD
  rw [List.pairwise_map, List.pairwise_filter]
  refine List.Pairwise.imp_of_mem ?_ List.pairwise_lt_range
  intro i j hi hj hij _ hk
  have hi2 := List.mem_range.1 hi
  have hj2 := List.mem_range.1 hj
  have gd : ∀ {k : Nat} (hk : k < l.length), l.getD k [] = l[k] := fun hk => by simp [hk]
  rw [Bool.or_eq_true, decide_eq_true_eq, decide_eq_true_eq, gd hj2, gd (show j - 1 < l.length by omega)] at hk
  rw [gd hi2, gd hj2]
  have hp := List.pairwise_iff_getElem.1 h
  have h1 := hp i j hi2 hj2 hij
  rcases nlt_tri l[i] l[j] with h5 | h5 | h5
  · exact h5
  · exfalso
    rcases hk with h7 | h7
    · omega
    rcases Nat.lt_or_ge i (j - 1) with h8 | h8
    · have a := hp i (j - 1) hi2 (by omega) h8
      have b := hp (j - 1) j (by omega) hj2 (by omega)
      rw [← h5] at b h7
      rcases nlt_tri l[i] l[j - 1] with h9 | h9 | h9
      · exact b h9
      · exact h7 h9.symm
      · exact a h9
    · have : j - 1 = i := by omega
      apply h7
      rw [← h5]
      congr 1
  · exact absurd h5 h1
/-- The nodes, sorted and each once. -/
theorem nodes_comp {K l : List Str} (hK : okKeys K = true) (hp : l.Pairwise fun x y => ¬ nlt y x) (hm : ∀ x, x ∈ l ↔ x = [] ∨ ∃ s ∈ K, x = s.take x.length) : compD l = nodesK K :=
  pw_uniq nlt_asym (compD_pw hp) (nodesK_ok hK).1 fun x => compD_mem.trans ((hm x).trans ((nodesK_ok hK).2 x).symm)
/-- Shorter ones first, then by their bytes. -/
def nCmp (a b : Str) : Int := if a.length < b.length then -1 else if b.length < a.length then 1 else if Op.bytesLess a b then -1 else if a = b then 0 else 1
theorem nCmp_neg {a b : Str} : nCmp a b < 0 ↔ nlt a b := by
  unfold nCmp nlt
  split
  · rename_i h
    simp [h]
  · rename_i h
    split
    · rename_i h2
      simp
      constructor
      · omega
      · intro h3; omega
    · rename_i h2
      have e : a.length = b.length := by omega
      split
      · rename_i h3
        simp [e, h3]
      · rename_i h3
        split <;> simp [e, h3]

theorem swo_nlt : «Sort».SWO (ltOf fun x y : Str9 => nCmp x.1 y.1) := by
  have e1 : ∀ x y : Str9, ltOf (fun x y : Str9 => nCmp x.1 y.1) x y = true ↔ nlt x.1 y.1 := fun x y => by
    unfold ltOf
    rw [decide_eq_true_eq]
    exact nCmp_neg
  have e0 : ∀ x y : Str9, ltOf (fun x y : Str9 => nCmp x.1 y.1) x y = false ↔ ¬ nlt x.1 y.1 := fun x y => by
    rw [← e1, Bool.not_eq_true]
  refine ⟨fun x => (e0 _ _).2 (nlt_irr _), fun x y z h1 h2 => (e1 _ _).2 (nlt_trans ((e1 _ _).1 h1) ((e1 _ _).1 h2)), fun x y z h1 h2 => ?_⟩
  have a := (e0 _ _).1 h1
  have b := (e0 _ _).1 h2
  refine (e0 _ _).2 fun hxz => ?_
  rcases nlt_tri x.1 y.1 with h5 | h5 | h5
  · exact a h5
  · rw [h5] at hxz
    exact b hxz
  · exact b (nlt_trans h5 hxz)

theorem compact_D {l : List Str} : Lib.compact l = compD l := by
  unfold Lib.compact Lib.compactUpTo compD
  have hg : ∀ j, j < l.length → l.toArray[j]! = l.getD j [] := fun j hj => by
    rw [getElem!_pos l.toArray j (by simpa using hj)]
    simp [hj]
  have h1 : (List.range l.length).filter (Lib.keeps l.toArray) = (List.range l.length).filter fun j => decide (j = 0) || decide (l.getD (j - 1) [] ≠ l.getD j []) := by
    refine List.filter_congr fun j hj => ?_
    have hj2 := List.mem_range.1 hj
    unfold Lib.keeps
    rw [hg j hj2, hg (j - 1) (by omega), Bool.decide_or]
    congr 1
    rw [decide_eq_decide]
    exact ⟨Ne.symm, Ne.symm⟩
  rw [h1]
  refine List.map_congr_left fun j hj => ?_
  exact hg j (List.mem_range.1 (List.mem_filter.1 hj).1)
theorem c_slices_Compact_string {h : H} {b n : Nat} {l : List Str} (hc : h.cells b = some (l.map .str)) (hl : l.length = n) (hn0 : 0 < n) (hn : n ≤ 1000000) (hls : ∀ s ∈ l, s.length ≤ 9223372036854775807) :
    Call Tryz.prog 136 [.sl b 0 1 n n] h (fun b' => b' = b) (fun x h' => x = .sl b 0 1 (compD l).length n ∧ (compD l).length ≤ n ∧ h' = wr h b ((compD l ++ List.replicate (n - (compD l).length) []).map .str)) := by
  have h1 := Call.compactStr (ρ := Tryz.compN_ren) Tryz.compN (canEnter_of Tryz.func136 (by kernel_rfl) (by kernel_rfl)) hc hl hn0 hn hls
  rw [compact_D] at h1
  exact h1

theorem c_cmp_isNaN_int (a : Int) : Fn Tryz.prog 164 [.int .i64 a] (· = .bool false) := by
  refine Fn.of free_bool fun h => ?_
  refine enter (by kernel_rfl) e164 (by kernel_rfl) rfl fun hok => ?_
  simp only [r164, initEnv_1]
  (try (simp (disch := first | omega | (simp <;> omega) | fail) only [push_cast, ↓reduceIte, Nat.reduceEqDiff, Nat.reduceAdd, Nat.reduceMul, Nat.reduceSub, Nat.reduceLT, Int.reduceToNat]))

theorem cmpB_eq : ∀ (a b : Str), Lib.compareBytes a b = if Op.bytesLess a b then -1 else if a = b then 0 else 1
  | [], [] => rfl
  | [], _ :: _ => by simp [Lib.compareBytes, Op.bytesLess]
  | _ :: _, [] => by simp [Lib.compareBytes, Op.bytesLess]
  | x :: a, y :: b => by
    unfold Lib.compareBytes
    rw [cmpB_eq a b, bl_cons]
    by_cases h1 : x < y
    · simp [h1]
    · by_cases h2 : y < x
      · have hne : x ≠ y := fun h => by subst h; exact h1 h2
        simp [h1, h2, hne]
      · have he : x = y := UInt8.le_antisymm (UInt8.not_lt.1 h2) (UInt8.not_lt.1 h1)
        subst he
        simp [h1]
theorem cmpB_two {a b : Str} : -1 ≤ Lib.compareBytes a b ∧ Lib.compareBytes a b ≤ 1 := by
  rw [cmpB_eq]
  split
  · omega
  · split <;> omega
def cmpI (a b : Int) : Int := if a < b then -1 else if b < a then 1 else 0
theorem nCmp_or {a b : Str} : nCmp a b = if cmpI a.length b.length ≠ 0 then cmpI a.length b.length else Lib.compareBytes a b := by
  unfold nCmp cmpI
  rw [cmpB_eq]
  by_cases h1 : a.length < b.length
  · have : (a.length : Int) < b.length := by omega
    simp [h1, this]
  · have h1' : ¬ (a.length : Int) < b.length := by omega
    by_cases h2 : b.length < a.length
    · have : (b.length : Int) < a.length := by omega
      simp [h1, h1', h2, this]
    · have h2' : ¬ (b.length : Int) < a.length := by omega
      simp [h1, h1', h2, h2']

theorem c_cmp_Compare_int (a b : Int) : Fn Tryz.prog 134 [.int .i64 a, .int .i64 b] (· = .int .i64 (cmpI a b)) := by
  refine Fn.of free_int fun h => ?_
  refine enter (by kernel_rfl) e134 (by kernel_rfl) rfl fun hok => ?_
  simp only [r134, initEnv_2]
  (try (simp (disch := first | omega | (simp <;> omega) | fail) only [push_cast, ↓reduceIte, Nat.reduceEqDiff, Nat.reduceAdd, Nat.reduceMul, Nat.reduceSub, Nat.reduceLT, Int.reduceToNat]))
  refine (c_cmp_isNaN_int a).call ?_
  (try (simp (disch := first | omega | (simp <;> omega) | fail) only [push_cast, ↓reduceIte, Nat.reduceEqDiff, Nat.reduceAdd, Nat.reduceMul, Nat.reduceSub, Nat.reduceLT, Int.reduceToNat]))
  refine (c_cmp_isNaN_int b).call ?_
  unfold cmpI
  by_cases h1 : a < b
  · rw [if_pos h1]
    (try (simp (disch := first | omega | (simp <;> omega) | fail) only [push_cast, ↓reduceIte, Nat.reduceEqDiff, Nat.reduceAdd, Nat.reduceMul, Nat.reduceSub, Nat.reduceLT, Int.reduceToNat, h1]))
  · rw [if_neg h1]
    by_cases h2 : b < a
    · rw [if_pos h2]
      (try (simp (disch := first | omega | (simp <;> omega) | fail) only [push_cast, ↓reduceIte, Nat.reduceEqDiff, Nat.reduceAdd, Nat.reduceMul, Nat.reduceSub, Nat.reduceLT, Int.reduceToNat, h1, h2]))
    · rw [if_neg h2]
      (try (simp (disch := first | omega | (simp <;> omega) | fail) only [push_cast, ↓reduceIte, Nat.reduceEqDiff, Nat.reduceAdd, Nat.reduceMul, Nat.reduceSub, Nat.reduceLT, Int.reduceToNat, h1, h2]))

theorem c_strings_Compare (a b : Str) : Fn Tryz.prog 135 [.str a, .str b] (· = .int .i64 (Lib.compareBytes a b)) :=
  Fn.ofGrow (canEnter_of Tryz.func135 (by kernel_rfl) (by kernel_rfl)) fun S w μ cargs hg ha => by
    obtain ⟨v, u, rfl, hv, hu⟩ := ar_2 ha
    rw [hv.str_, hu.str_]
    have hc := Tryz.strings_Compare ⟨a.toArray⟩ ⟨b.toArray⟩ w
    have h2 := cmpB_two (a := a) (b := b)
    refine ⟨_, fun S w μ => .int .i64 _, hc.mono ?_⟩
    rintro e w' ⟨rfl, rfl⟩
    exact ⟨rfl, 0, #[], (Sort.grow_empty _).symm⟩

theorem c_cmp_Or_int (a b : Int) : Fn Tryz.prog 133 [eI (some [a, b])] (· = .int .i64 (if a ≠ 0 then a else b)) := by
  refine Fn.of free_int fun h => ?_
  refine enter (by kernel_rfl) e133 (by kernel_rfl) rfl fun hok => ?_
  simp only [r133, initEnv_1]
  have hl : (lI (some [a, b])).length = 2 := rfl
  have hlI : lI (some [a, b]) = [a, b] := rfl
  have h0 : (([a, b] : List Int).map (AV.int .i64))[0]? = some (.int .i64 a) := rfl
  have h1 : (([a, b] : List Int).map (AV.int .i64))[1]? = some (.int .i64 b) := rfl
  (try (simp (disch := first | omega | (simp <;> omega) | fail) only [push_cast, ↓reduceIte, Nat.reduceEqDiff, Nat.reduceAdd, Nat.reduceMul, Nat.reduceSub, Nat.reduceLT, Int.reduceToNat]))
  refine T_for 2 (fun i e h' => Pins e [(3, .int .i64 0), (6, eI (some [a, b])), (7, .int .i64 2), (8, .int .i64 i)] ∧ h' = h ∧ (1 ≤ i → a = 0) ∧ (2 ≤ i → b = 0)) ?_ ?_
  · (try (simp (disch := first | omega | (simp <;> omega) | fail) only [push_cast, ↓reduceIte, Nat.reduceEqDiff, Nat.reduceAdd, Nat.reduceMul, Nat.reduceSub, Nat.reduceLT, Int.reduceToNat, hl]))
    all_goals (try omega)
  rintro i e h' hi ⟨hp, rfl, ha, hb⟩
  refine T_pins hp fun e => ?_
  (try (simp (disch := first | omega | (simp <;> omega) | fail) only [push_cast, ↓reduceIte, Nat.reduceEqDiff, Nat.reduceAdd, Nat.reduceMul, Nat.reduceSub, Nat.reduceLT, Int.reduceToNat]))
  first | refine goC_split (fun hc => ?_) (fun hc => ?_) | refine cnd_split (fun hc => ?_) (fun hc => ?_)
  · (try (simp only [decide_eq_true_eq, decide_eq_false_iff_not, Bool.not_eq_true', Bool.not_eq_false', Bool.and_eq_true, Bool.or_eq_true, Int.not_lt, Int.not_le] at hc)); (try (simp (disch := first | omega | (simp <;> omega) | fail) only [push_cast, ↓reduceIte, Nat.reduceEqDiff, Nat.reduceAdd, Nat.reduceMul, Nat.reduceSub, Nat.reduceLT, Int.reduceToNat]))
    rcases (by omega : i = 0 ∨ i = 1) with rfl | rfl
    · by_cases hx : a = 0
      · subst hx
        (try (simp (disch := first | omega | (simp <;> omega) | fail) only [push_cast, ↓reduceIte, Nat.reduceEqDiff, Nat.reduceAdd, Nat.reduceMul, Nat.reduceSub, Nat.reduceLT, Int.reduceToNat, hlI, h0]))
        all_goals (try exact ⟨fun _ => trivial, fun h => by omega⟩)
      · rw [if_pos hx]
        (try (simp (disch := first | omega | (simp <;> omega) | fail) only [push_cast, ↓reduceIte, Nat.reduceEqDiff, Nat.reduceAdd, Nat.reduceMul, Nat.reduceSub, Nat.reduceLT, Int.reduceToNat, hlI, h0, hx]))
    · have ha0 := ha (Nat.le_refl _)
      subst ha0
      rw [if_neg (by simp)]
      by_cases hx : b = 0
      · subst hx
        (try (simp (disch := first | omega | (simp <;> omega) | fail) only [push_cast, ↓reduceIte, Nat.reduceEqDiff, Nat.reduceAdd, Nat.reduceMul, Nat.reduceSub, Nat.reduceLT, Int.reduceToNat, hlI, h1]))
        all_goals (try exact fun _ => trivial)
      · (try (simp (disch := first | omega | (simp <;> omega) | fail) only [push_cast, ↓reduceIte, Nat.reduceEqDiff, Nat.reduceAdd, Nat.reduceMul, Nat.reduceSub, Nat.reduceLT, Int.reduceToNat, hlI, h1, hx]))
  · (try (simp only [decide_eq_true_eq, decide_eq_false_iff_not, Bool.not_eq_true', Bool.not_eq_false', Bool.and_eq_true, Bool.or_eq_true, Int.not_lt, Int.not_le] at hc)); (try (simp (disch := first | omega | (simp <;> omega) | fail) only [push_cast, ↓reduceIte, Nat.reduceEqDiff, Nat.reduceAdd, Nat.reduceMul, Nat.reduceSub, Nat.reduceLT, Int.reduceToNat]))

theorem c_impl_nodesFor1 (a b : Str) (hok0 : a.length ≤ 9223372036854775807) (hok1 : b.length ≤ 9223372036854775807) : Fn Tryz.prog 132 [.str a, .str b] (· = .int .i64 (nCmp a b)) := by
  refine Fn.of free_int fun h => ?_
  refine enter (by kernel_rfl) e132 (by kernel_rfl) rfl fun hok => ?_
  simp only [r132, initEnv_2]
  rw [nCmp_or]
  (try (simp (disch := first | omega | (simp <;> omega) | fail) only [push_cast, ↓reduceIte, Nat.reduceEqDiff, Nat.reduceAdd, Nat.reduceMul, Nat.reduceSub, Nat.reduceLT, Int.reduceToNat]))
  refine (c_cmp_Compare_int a.length b.length).call ?_
  generalize cmpI a.length b.length = x
  (try (simp (disch := first | omega | (simp <;> omega) | fail) only [push_cast, ↓reduceIte, Nat.reduceEqDiff, Nat.reduceAdd, Nat.reduceMul, Nat.reduceSub, Nat.reduceLT, Int.reduceToNat]))
  refine (c_strings_Compare a b).call ?_
  generalize Lib.compareBytes a b = y
  (try (simp (disch := first | omega | (simp <;> omega) | fail) only [push_cast, ↓reduceIte, Nat.reduceEqDiff, Nat.reduceAdd, Nat.reduceMul, Nat.reduceSub, Nat.reduceLT, Int.reduceToNat]))
  refine ⟨rfl, ?_⟩
  refine (c_cmp_Or_int x y).lendL (.cons (vw_all (len := 2) (kc := 2) (cs := [.int .i64 x, .int .i64 y]) (Nat.zero_le _) (by rw [cells_h0]; rfl) rfl rfl (free_cons_ free_int (free_cons_ free_int free_nil_))) .nil) own_int ?_
  (try (simp (disch := first | omega | (simp <;> omega) | fail) only [push_cast, ↓reduceIte, Nat.reduceEqDiff, Nat.reduceAdd, Nat.reduceMul, Nat.reduceSub, Nat.reduceLT, Int.reduceToNat]))

def preL (s : Str) : List Str := (List.range s.length).map fun n => s.take (n + 1)
def allP (K : List Str) : List Str := [] :: K.flatMap preL
theorem preL_mem {s x : Str} : x ∈ preL s ↔ 1 ≤ x.length ∧ x = s.take x.length := by
  unfold preL
  rw [List.mem_map]
  constructor
  · rintro ⟨n, hn, rfl⟩
    have := List.mem_range.1 hn
    rw [List.length_take, Nat.min_eq_left (by omega)]
    exact ⟨by omega, rfl⟩
  · rintro ⟨h1, h2⟩
    have hl : x.length ≤ s.length := by
      have := congrArg List.length h2
      rw [List.length_take] at this
      omega
    refine ⟨x.length - 1, List.mem_range.2 (by omega), ?_⟩
    rw [show x.length - 1 + 1 = x.length by omega]
    exact h2.symm
theorem allP_mem {K : List Str} {x : Str} : x ∈ allP K ↔ x = [] ∨ ∃ s ∈ K, x = s.take x.length := by
  unfold allP
  rw [List.mem_cons, List.mem_flatMap]
  constructor
  · rintro (h | ⟨s, hs, h⟩)
    · exact .inl h
    · exact .inr ⟨s, hs, (preL_mem.1 h).2⟩
  · rintro (h | ⟨s, hs, h⟩)
    · exact .inl h
    · by_cases h0 : x = []
      · exact .inl h0
      · exact .inr ⟨s, hs, preL_mem.2 ⟨List.length_pos_iff.2 h0, h⟩⟩
theorem preL_len {s : Str} : (preL s).length = s.length := by simp [preL]
theorem flat_pre_len {n : Nat} : ∀ {K : List Str}, (∀ s ∈ K, s.length ≤ n) → (K.flatMap preL).length ≤ n * K.length
  | [], _ => by simp
  | s :: K, h => by
    have h1 := flat_pre_len (K := K) fun x hx => h x (List.mem_cons_of_mem _ hx)
    have h2 := h s (by simp)
    rw [List.flatMap_cons, List.length_append, preL_len, List.length_cons, Nat.mul_succ]
    omega

theorem c_SortFunc_nodes {h : H} {b n : Nat} {l : List Str} (hc : h.cells b = some (l.map .str)) (hl : l.length = n) (hn0 : 0 < n) (hn : n ≤ 1000000) (hls : ∀ s ∈ l, s.length ≤ 9223372036854775807) :
    Call Tryz.prog 131 [.sl b 0 1 n n, .fn 132 []] h (fun b' => b' = b) (fun x h' => ∃ l' : List Str, (x = .tup [] ∧ l'.Perm l ∧ l'.Pairwise fun x y => ¬ nlt y x) ∧ l'.length = n ∧ h' = wr h b (l'.map .str)) := by
  refine (Call.sortS (ρ := Tryz.sortL_ren) Tryz.sortL (g := 132) (canEnter_of Tryz.func131 (by kernel_rfl) (by kernel_rfl)) hc hl hn0 hn swo_nlt (fun x y => c_impl_nodesFor1 x.1 y.1 x.2 y.2) hls).mono (fun x h' hx => ?_) (fun _ _ h => h)
  obtain ⟨l', ⟨h1, h2, h3⟩, h4, h5⟩ := hx
  exact ⟨l', ⟨h1, h2, h3.imp fun h7 h8 => h7 (nCmp_neg.2 h8)⟩, h4, h5⟩
theorem c_impl_nodesFor (o : Option (List Str)) (hK : okKeys (lS o) = true) : Fn Tryz.prog 81 [eS o] (· = eS (some (nodesK (lS o)))) := by
  refine Fn.froze fun h => ?_
  refine enter (by kernel_rfl) e81 (by kernel_rfl) rfl fun hok => ?_
  simp only [r81, initEnv_1]
  have hlen := ok_eS (okV_0 hok)
  have hKl := (okKeys_all hK).2.2
  have hK12 : ∀ s ∈ lS o, s.length ≤ 12 := fun s hs => (okKey_len ((okKeys_all hK).1 s hs)).2
  have hfl := flat_pre_len hK12
  have hmem := @allP_mem (lS o)
  have hcmp := @nodes_comp (lS o)
  generalize hT : RCode.seq (.reg (⟨some 28, .v (.mov (.t 3)), none⟩ :: _)) _ = TL
  (try (simp (disch := first | omega | (simp <;> omega) | fail) only [push_cast, ↓reduceIte, Nat.reduceEqDiff, Nat.reduceAdd, Nat.reduceMul, Nat.reduceSub, Nat.reduceLT, Int.reduceToNat]))
  have hg0 := GsI.single (f := AV.str) (n0 := h.length) (h' := h) (x := []) (Nat.le_refl _)
  refine T_for (lS o).length (fun k e h' => ∃ v, Pins e [(3, v), (8, eS o), (9, .int .i64 (lS o).length), (10, .int .i64 k)] ∧ GsI AV.str h.length h' v ([] :: ((lS o).take k).flatMap preL) ∧ (((lS o).take k).flatMap preL).length ≤ 12 * k) ?_ ?_
  · refine ⟨.sl h.length 0 1 1 1, ?_⟩
    (try (simp (disch := first | omega | (simp <;> omega) | fail) only [push_cast, ↓reduceIte, Nat.reduceEqDiff, Nat.reduceAdd, Nat.reduceMul, Nat.reduceSub, Nat.reduceLT, Int.reduceToNat]))
    all_goals (try exact ⟨hg0, by simp⟩)
    all_goals (try exact hg0)
  rintro k e h' hk ⟨v, hp, hs, hle⟩
  refine T_pins hp fun e => ?_
  (try (simp (disch := first | omega | (simp <;> omega) | fail) only [push_cast, ↓reduceIte, Nat.reduceEqDiff, Nat.reduceAdd, Nat.reduceMul, Nat.reduceSub, Nat.reduceLT, Int.reduceToNat]))
  first | refine goC_split (fun hc => ?_) (fun hc => ?_) | refine cnd_split (fun hc => ?_) (fun hc => ?_)
  · (try (simp only [decide_eq_true_eq, decide_eq_false_iff_not, Bool.not_eq_true', Bool.not_eq_false', Bool.and_eq_true, Bool.or_eq_true, Int.not_lt, Int.not_le] at hc)); (try (simp (disch := first | omega | (simp <;> omega) | fail) only [push_cast, ↓reduceIte, Nat.reduceEqDiff, Nat.reduceAdd, Nat.reduceMul, Nat.reduceSub, Nat.reduceLT, Int.reduceToNat]))
    have hk2 : k < (lS o).length := by omega
    obtain ⟨s, hsd⟩ : ∃ s, s = (lS o).getD k [] := ⟨_, rfl⟩
    have hs12 : s.length ≤ 12 := hK12 s (by rw [hsd]; simp [hk2])
    have hfm := take_next_fm (f := preL) (d := []) hk2
    rw [← hsd] at hfm
    have hpl := preL_len (s := s)
    (try (simp (disch := first | omega | (simp <;> omega) | fail) only [push_cast, ↓reduceIte, Nat.reduceEqDiff, Nat.reduceAdd, Nat.reduceMul, Nat.reduceSub, Nat.reduceLT, Int.reduceToNat, ← hsd]))
    refine T_for s.length (fun j e h' => ∃ v, Pins e [(3, v), (5, .str s), (8, eS o), (9, .int .i64 (lS o).length), (10, .int .i64 k), (15, .int .i64 s.length), (16, .int .i64 j)] ∧ GsI AV.str h.length h' v ([] :: (((lS o).take k).flatMap preL ++ (List.range j).map fun n => s.take (n + 1)))) ?_ ?_
    · refine ⟨v, ?_⟩
      (try (simp (disch := first | omega | (simp <;> omega) | fail) only [push_cast, ↓reduceIte, Nat.reduceEqDiff, Nat.reduceAdd, Nat.reduceMul, Nat.reduceSub, Nat.reduceLT, Int.reduceToNat]))
      all_goals (try simpa using hs)
    rintro j e h' hj ⟨v, hp, hs⟩
    refine T_pins hp fun e => ?_
    (try (simp (disch := first | omega | (simp <;> omega) | fail) only [push_cast, ↓reduceIte, Nat.reduceEqDiff, Nat.reduceAdd, Nat.reduceMul, Nat.reduceSub, Nat.reduceLT, Int.reduceToNat]))
    first | refine goC_split (fun hc => ?_) (fun hc => ?_) | refine cnd_split (fun hc => ?_) (fun hc => ?_)
    · (try (simp only [decide_eq_true_eq, decide_eq_false_iff_not, Bool.not_eq_true', Bool.not_eq_false', Bool.and_eq_true, Bool.or_eq_true, Int.not_lt, Int.not_le] at hc)); (try (simp (disch := first | omega | (simp <;> omega) | fail) only [push_cast, ↓reduceIte, Nat.reduceEqDiff, Nat.reduceAdd, Nat.reduceMul, Nat.reduceSub, Nat.reduceLT, Int.reduceToNat]))
      have hj2 : j < s.length := by omega
      (try (simp (disch := first | omega | (simp <;> omega) | fail) only [push_cast, ↓reduceIte, Nat.reduceEqDiff, Nat.reduceAdd, Nat.reduceMul, Nat.reduceSub, Nat.reduceLT, Int.reduceToNat]))
      refine hs.app (by_ := 16) (fun c hc => by first | exact Or.inr (by omega) | exact ⟨Or.inr (by omega), by omega⟩) (by simp only [List.length_cons, List.length_append, List.length_map, List.length_range]; omega) (by decide) fun v' h'' q1 q2 q3 => ?_
      have e1 : ([] :: (((lS o).take k).flatMap preL ++ (List.range j).map fun n => s.take (n + 1))) ++ [s.take (j + 1)] = [] :: (((lS o).take k).flatMap preL ++ (List.range (j + 1)).map fun n => s.take (n + 1)) := by
        rw [List.range_succ, List.map_append]
        simp
      rw [Nat.sub_zero, List.drop_zero, e1] at q1
      (try (simp (disch := first | omega | (simp <;> omega) | fail) only [push_cast, ↓reduceIte, Nat.reduceEqDiff, Nat.reduceAdd, Nat.reduceMul, Nat.reduceSub, Nat.reduceLT, Int.reduceToNat]))
      all_goals (try exact ⟨_, rfl, q1⟩)
    · (try (simp only [decide_eq_true_eq, decide_eq_false_iff_not, Bool.not_eq_true', Bool.not_eq_false', Bool.and_eq_true, Bool.or_eq_true, Int.not_lt, Int.not_le] at hc)); (try (simp (disch := first | omega | (simp <;> omega) | fail) only [push_cast, ↓reduceIte, Nat.reduceEqDiff, Nat.reduceAdd, Nat.reduceMul, Nat.reduceSub, Nat.reduceLT, Int.reduceToNat]))
      have hje : j = s.length := by omega
      subst hje
      have q1 : GsI AV.str h.length h' v ([] :: ((lS o).take (k + 1)).flatMap preL) := by
        rw [hfm]
        exact hs
      have hle2 : (((lS o).take (k + 1)).flatMap preL).length ≤ 12 * (k + 1) := by
        rw [hfm, List.length_append]
        omega
      (try (simp (disch := first | omega | (simp <;> omega) | fail) only [push_cast, ↓reduceIte, Nat.reduceEqDiff, Nat.reduceAdd, Nat.reduceMul, Nat.reduceSub, Nat.reduceLT, Int.reduceToNat]))
      all_goals (try exact ⟨_, rfl, q1⟩)
      all_goals (try exact ⟨_, rfl, q1, hle2⟩)
  · (try (simp only [decide_eq_true_eq, decide_eq_false_iff_not, Bool.not_eq_true', Bool.not_eq_false', Bool.and_eq_true, Bool.or_eq_true, Int.not_lt, Int.not_le] at hc)); (try (simp (disch := first | omega | (simp <;> omega) | fail) only [push_cast, ↓reduceIte, Nat.reduceEqDiff, Nat.reduceAdd, Nat.reduceMul, Nat.reduceSub, Nat.reduceLT, Int.reduceToNat]))
    have hke : k = (lS o).length := by omega
    subst hke
    rw [List.take_length] at hs hle
    rw [← hT]
    have hmem2 : ∀ x, x ∈ [] :: (lS o).flatMap preL ↔ x = [] ∨ ∃ s ∈ lS o, x = s.take x.length := fun x => hmem
    have hll : ([] :: (lS o).flatMap preL).length ≤ 481 := by
      rw [List.length_cons]
      omega
    have hl1 : 0 < ([] :: (lS o).flatMap preL).length := by simp
    have hx12 : ∀ x ∈ [] :: (lS o).flatMap preL, x.length ≤ 9223372036854775807 := fun x hx => by
      rcases (hmem2 x).1 hx with h5 | ⟨s, hs5, h5⟩
      · rw [h5]
        simp
      · have h7 := hK12 s hs5
        have := congrArg List.length h5
        rw [List.length_take] at this
        omega
    obtain ⟨b, hv, hb, hcb⟩ := hs.at_ (by simp)
    subst hv
    generalize [] :: (lS o).flatMap preL = L at *
    have hbl := cells_lt hcb
    (try (simp (disch := first | omega | (simp <;> omega) | fail) only [push_cast, ↓reduceIte, Nat.reduceEqDiff, Nat.reduceAdd, Nat.reduceMul, Nat.reduceSub, Nat.reduceLT, Int.reduceToNat]))
    refine (c_SortFunc_nodes hcb rfl hl1 (by omega) hx12).mono (fun x h2 hx => ?_) (fun b' _ hb' => Or.inr (by omega))
    obtain ⟨l', ⟨rfl, hp1, hp2⟩, hl', rfl⟩ := hx
    have hnk := hcmp hK hp2 fun x => hp1.mem_iff.trans (hmem2 x)
    (try (simp (disch := first | omega | (simp <;> omega) | fail) only [push_cast, ↓reduceIte, Nat.reduceEqDiff, Nat.reduceAdd, Nat.reduceMul, Nat.reduceSub, Nat.reduceLT, Int.reduceToNat]))
    refine (c_slices_Compact_string (cells_wr2 hbl) hl' hl1 (by omega) (fun s hs5 => hx12 s (hp1.mem_iff.1 hs5))).mono (fun x h2 hx => ?_) (fun b' _ hb' => Or.inr (by omega))
    obtain ⟨rfl, hle3, rfl⟩ := hx
    rw [hnk] at hle3 ⊢
    have hbl2 : b < (wr h' b (l'.map .str)).length := by simpa [wr] using hbl
    have hfin : Vw (wr (wr h' b (l'.map .str)) b ((nodesK (lS o) ++ List.replicate (L.length - (nodesK (lS o)).length) []).map .str)) h.length (.sl b 0 1 (nodesK (lS o)).length L.length) (eS (some (nodesK (lS o)))) := by
      refine .sl hb (cells_wr2 hbl2) (by simp) (by simp) (one_map fun _ => rfl) fun i y t hy ht => ?_
      rw [Nat.zero_add, List.map_append, List.getElem?_append_left (by have := (List.getElem?_eq_some_iff.1 ht).1; exact this), ht] at hy
      injection hy with hy
      subst hy
      obtain ⟨s, _, rfl⟩ := List.mem_map.1 (List.mem_of_getElem? ht)
      exact .free free_str
    (try (simp (disch := first | omega | (simp <;> omega) | fail) only [push_cast, ↓reduceIte, Nat.reduceEqDiff, Nat.reduceAdd, Nat.reduceMul, Nat.reduceSub, Nat.reduceLT, Int.reduceToNat]))
    all_goals (try exact hfin)

theorem c_impl_blank_own (n m : Nat) (hn : n ≤ 1000000) (hm : (((n : Int) + 15) / 16) = (m : Int)) (h : H) : Call Tryz.prog 113 [.int .i64 n] h Nowhere (fun x h' => BnI h h' n m x) := by
  refine enter (by kernel_rfl) e113 (by kernel_rfl) rfl fun hok => ?_
  simp only [r113, initEnv_1]
  (try (simp (disch := first | omega | (simp <;> omega) | fail) only [push_cast, ↓reduceIte, Nat.reduceEqDiff, Nat.reduceAdd, Nat.reduceMul, Nat.reduceSub, Nat.reduceLT, Int.reduceToNat]))
  refine (c_impl_words n (by omega) (by omega)).call ?_
  (try (simp (disch := first | omega | (simp <;> omega) | fail) only [push_cast, ↓reduceIte, Nat.reduceEqDiff, Nat.reduceAdd, Nat.reduceMul, Nat.reduceSub, Nat.reduceLT, Int.reduceToNat, hm]))
  all_goals (try exact ⟨h.length + 1, rfl, by omega, ⟨_, rfl⟩, by rw [cells_hk]; simp [cellsO, rep_words]⟩)

theorem c_impl_Bits_set (m B i b5 o bb : Nat) (on : Bool) (cs : List AV) (h : H) (h5 : h.cells b5 = some cs) (h1 : cs[o + 1]? = some (.sl bb 0 1 m m)) (hb : h.cells bb = some ((wordsN B m).map (.int .i64))) (hi : i < 16 * m) (hm : m ≤ 1000) (hne : b5 ≠ bb) :
    Call Tryz.prog 114 [.adr b5 o, .int .i64 i, .bool on] h (fun b' => b' = bb) (fun _ h' => h'.length = h.length ∧ (∀ c, c ≠ bb → h'[c]? = h[c]?) ∧ h'.cells bb = some ((wordsN (setB B i on) m).map (.int .i64))) := by
  refine enter (by kernel_rfl) e114 (by kernel_rfl) rfl fun hok => ?_
  simp only [r114, initEnv_3]
  have hbl := cells_lt hb
  have e1 : ((i : Int) / 16).toNat = i / 16 := by omega
  have e2 : ((i : Int) % 16).toNat = i % 16 := by omega
  obtain ⟨v, hv⟩ : ∃ v : Nat, v = 2 ^ (i % 16) := ⟨_, rfl⟩
  have hvl : v < 65536 := by
    rw [hv]
    have : 2 ^ (i % 16) < 2 ^ 16 := Nat.pow_lt_pow_right (by decide) (by omega)
    simpa using this
  have hsh := shl16 (j := i % 16) (by omega)
  rw [← hv] at hsh
  have hwl := wordN_lt (B := B) (k := i / 16)
  obtain ⟨r, hr⟩ : ∃ r : Nat, r = wordN B (i / 16) ^^^ (wordN B (i / 16) &&& v) := ⟨_, rfl⟩
  have han := bitsI_andNot (x := wordN B (i / 16)) (y := v) (by omega) (by omega)
  rw [← hr] at han
  have hlen : ((wordsN B m).map (AV.int .i64)).length = m := by simp [wordsN_len]
  have hgi : ((wordsN B m).map (AV.int .i64))[i / 16]? = some (.int .i64 (wordN B (i / 16) : Int)) := by
    rw [get_I (by rw [wordsN_len]; omega), wordsN_get (by omega)]
  obtain ⟨C, hC⟩ : ∃ C, C = B ^^^ (B &&& 2 ^ i) := ⟨_, rfl⟩
  have hos : over ((wordsN B m).map (AV.int .i64)) (i / 16) [.int .i64 (r : Int)] = (wordsN C m).map (.int .i64) := by
    rw [over_set (by rw [hlen]; omega), hC, ← wordsN_clr hi, ← hv, ← hr, List.map_set]
  have hpm : (bb = bb) = True := by simp
  have w5 : H.cells (wr h bb ((wordsN C m).map (.int .i64))) b5 = some cs := by
    rw [cells_eq]
    unfold wr
    rw [List.getElem?_set_ne (Ne.symm hne), ← cells_eq]
    exact h5
  have wb : H.cells (wr h bb ((wordsN C m).map (.int .i64))) bb = some ((wordsN C m).map (.int .i64)) := cells_wr2 hbl
  have hlen2 : ((wordsN C m).map (AV.int .i64)).length = m := by simp [wordsN_len]
  have hgi2 : ((wordsN C m).map (AV.int .i64))[i / 16]? = some (.int .i64 (wordN C (i / 16) : Int)) := by
    rw [get_I (by rw [wordsN_len]; omega), wordsN_get (by omega)]
  have hwl2 := wordN_lt (B := C) (k := i / 16)
  obtain ⟨r2, hr2⟩ : ∃ r : Nat, r = wordN C (i / 16) ||| v := ⟨_, rfl⟩
  have hor := bitsI_or (x := wordN C (i / 16)) (y := v) (by omega) (by omega)
  rw [← hr2] at hor
  have hos2 : over ((wordsN C m).map (AV.int .i64)) (i / 16) [.int .i64 (r2 : Int)] = (wordsN (C ||| 2 ^ i) m).map (.int .i64) := by
    rw [over_set (by rw [hlen2]; omega), ← wordsN_set hi, ← hv, ← hr2, List.map_set]
  have hres : setB B i on = if on then C ||| 2 ^ i else C := by
    unfold setB
    rw [hC]
    cases on <;> simp
  have hfr1 : ∀ c, c ≠ bb → (wr h bb ((wordsN C m).map (.int .i64)))[c]? = h[c]? := fun c hc => by
    unfold wr
    rw [List.getElem?_set_ne (Ne.symm hc)]
  cases on
  · rw [if_neg (by simp)] at hres
    rw [hres]
    (try (simp (disch := first | omega | (simp <;> omega) | fail) only [push_cast, ↓reduceIte, Nat.reduceEqDiff, Nat.reduceAdd, Nat.reduceMul, Nat.reduceSub, Nat.reduceLT, Int.reduceToNat, h5, h1, hb, e1, e2, hsh, hgi, han, hlen, hos, hpm, reads, List.mem_cons, List.mem_append, List.not_mem_nil, nat_ff, or_self, or_false, false_or, not_false_eq_true]))
    all_goals (try exact ⟨by simp [wr], hfr1, wb⟩)
  · rw [if_pos rfl] at hres
    rw [hres]
    (try (simp (disch := first | omega | (simp <;> omega) | fail) only [push_cast, ↓reduceIte, Nat.reduceEqDiff, Nat.reduceAdd, Nat.reduceMul, Nat.reduceSub, Nat.reduceLT, Int.reduceToNat, h5, h1, hb, e1, e2, hsh, hgi, han, hlen, hos, hpm, w5, wb, hgi2, hor, hlen2, hos2, reads, List.mem_cons, List.mem_append, List.not_mem_nil, nat_ff, or_self, or_false, false_or, not_false_eq_true]))
    all_goals (try exact ⟨by simp [wr], fun c hc => by
      unfold wr
      rw [List.getElem?_set_ne (Ne.symm hc)]
      exact hfr1 c hc, cells_wr2 (by simp [wr]; omega)⟩)

def MdI (h h' : H) (n m b9 bb x : Nat) : Prop :=
  h.length ≤ h'.length ∧ (∀ c, c < h.length → h'[c]? = h[c]?) ∧ h'.cells b9 = some [.int .i64 n, .sl bb 0 1 m m] ∧ h'.cells bb = some ((wordsN x m).map (.int .i64)) ∧ h.length + 1 ≤ bb ∧ h.length + 1 ≤ b9 ∧ b9 ≠ bb ∧ h'.cells h.length = some [.int .i64 0, .nils]
theorem MdI.put {h h' h2 : H} {n m b9 bb x y : Nat} (hr : MdI h h' n m b9 bb x) (hl : h2.length = h'.length) (hf : ∀ c, c ≠ bb → h2[c]? = h'[c]?) (hc : h2.cells bb = some ((wordsN y m).map (.int .i64))) : MdI h h2 n m b9 bb y := by
  obtain ⟨h1, h2, h3, h4, h5, h6, h7, h8⟩ := hr
  exact ⟨by omega, fun c hc => (hf c (by omega)).trans (h2 c hc), cells_keep (hf _ h7) h3, hc, h5, h6, h7, cells_keep (hf _ (by omega)) h8⟩
theorem c_impl_madeBits_g (n m f : Nat) (xs ts : List AV) (g : Nat → Bool) (hn : n ≤ 5000) (hm : (((n : Int) + 15) / 16) = (m : Int)) (hg : ∀ i : Nat, i < n → Fn Tryz.prog f (.int .i64 i :: ts) (· = .bool (g i))) (h : H) (hlend : ∀ h' : H, h.length ≤ h'.length → (∀ k, k < h.length → h'[k]? = h[k]?) → Lend h' xs ts) :
    Call Tryz.prog 84 [.int .i64 n, .fn f xs] h Nowhere (fun x h' => ∃ bb, x = .agg [.int .i64 n, .sl bb 0 1 m m] ∧ h.length ≤ bb ∧ h.length ≤ h'.length ∧ (∀ c, c < h.length → h'[c]? = h[c]?) ∧ h'.cells bb = some ((wordsN (mkN n g) m).map (.int .i64))) := by
  refine enter (by kernel_rfl) e84 (by kernel_rfl) rfl fun hok => ?_
  simp only [r84, initEnv_2]
  (try (simp (disch := first | omega | (simp <;> omega) | fail) only [push_cast, ↓reduceIte, Nat.reduceEqDiff, Nat.reduceAdd, Nat.reduceMul, Nat.reduceSub, Nat.reduceLT, Int.reduceToNat]))
  refine (c_impl_blank_own n m (by omega) hm _).mono (fun x h1 hx => ?_) (fun _ _ h => h.elim)
  obtain ⟨bb, rfl, hbb, ⟨p, hp1⟩, hcb⟩ := hx
  simp only [List.length_append, List.length_cons, List.length_nil] at hbb
  have hl1 : h.length + 1 ≤ h1.length := by rw [hp1]; simp
  have hk1 : ∀ c, c < h.length → h1[c]? = h[c]? := fun c hc => by
    rw [hp1, List.append_assoc]
    exact List.getElem?_append_left hc
  have hc0 : h1.cells h.length = some [.int .i64 0, .nils] := by
    rw [hp1]
    refine cells_app ?_
    rw [cells_h0]
    rfl
  have hbl1 := cells_lt hcb
  clear hp1
  have hne : h1.length ≠ bb := by omega
  have hM0 : MdI h (h1 ++ [some (.cells [.int .i64 n, .sl bb 0 1 m m])]) n m h1.length bb (mkN 0 g) := ⟨by simp; omega, fun c hc => (List.getElem?_append_left (by omega)).trans (hk1 c hc), by rw [cells_h0]; rfl, cells_app hcb, hbb, hl1, hne, cells_app hc0⟩
  (try (simp (disch := first | omega | (simp <;> omega) | fail) only [push_cast, ↓reduceIte, Nat.reduceEqDiff, Nat.reduceAdd, Nat.reduceMul, Nat.reduceSub, Nat.reduceLT, Int.reduceToNat]))
  refine T_for n (fun i e h' => Pins e [(1, .fn f xs), (4, .adr h.length 0), (5, .adr h1.length 0), (9, .int .i64 n), (10, .int .i64 i)] ∧ MdI h h' n m h1.length bb (mkN i g)) ?_ ?_
  · (try (simp (disch := first | omega | (simp <;> omega) | fail) only [push_cast, ↓reduceIte, Nat.reduceEqDiff, Nat.reduceAdd, Nat.reduceMul, Nat.reduceSub, Nat.reduceLT, Int.reduceToNat]))
    all_goals (try exact hM0)
  clear hM0
  rintro i e h' hi ⟨hp, hr⟩
  refine T_pins hp fun e => ?_
  obtain ⟨r1, r2, r3, r4, r5, r6, r7, r8⟩ := id hr
  (try (simp (disch := first | omega | (simp <;> omega) | fail) only [push_cast, ↓reduceIte, Nat.reduceEqDiff, Nat.reduceAdd, Nat.reduceMul, Nat.reduceSub, Nat.reduceLT, Int.reduceToNat]))
  first | refine goC_split (fun hc => ?_) (fun hc => ?_) | refine cnd_split (fun hc => ?_) (fun hc => ?_)
  · (try (simp only [decide_eq_true_eq, decide_eq_false_iff_not, Bool.not_eq_true', Bool.not_eq_false', Bool.and_eq_true, Bool.or_eq_true, Int.not_lt, Int.not_le] at hc)); (try (simp (disch := first | omega | (simp <;> omega) | fail) only [push_cast, ↓reduceIte, Nat.reduceEqDiff, Nat.reduceAdd, Nat.reduceMul, Nat.reduceSub, Nat.reduceLT, Int.reduceToNat]))
    have hi2 : i < n := by omega
    (try (simp (disch := first | omega | (simp <;> omega) | fail) only [push_cast, ↓reduceIte, Nat.reduceEqDiff, Nat.reduceAdd, Nat.reduceMul, Nat.reduceSub, Nat.reduceLT, Int.reduceToNat, List.cons_append, List.nil_append]))
    refine (hg i hi2).lendL (.free free_int (hlend _ (by omega) r2)) own_bool ?_
    (try (simp (disch := first | omega | (simp <;> omega) | fail) only [push_cast, ↓reduceIte, Nat.reduceEqDiff, Nat.reduceAdd, Nat.reduceMul, Nat.reduceSub, Nat.reduceLT, Int.reduceToNat]))
    refine (c_impl_Bits_set m (mkN i g) i h1.length 0 bb (g i) _ _ r3 rfl r4 (by omega) (by omega) r7).mono (fun y h2 hy => ?_) (fun b' _ hb' => Or.inr (by omega))
    obtain ⟨y1, y2, y3⟩ := hy
    rw [← mkN_succ] at y3
    have hfin := hr.put y1 y2 y3
    (try (simp (disch := first | omega | (simp <;> omega) | fail) only [push_cast, ↓reduceIte, Nat.reduceEqDiff, Nat.reduceAdd, Nat.reduceMul, Nat.reduceSub, Nat.reduceLT, Int.reduceToNat]))
    all_goals (try exact hfin)
  · (try (simp only [decide_eq_true_eq, decide_eq_false_iff_not, Bool.not_eq_true', Bool.not_eq_false', Bool.and_eq_true, Bool.or_eq_true, Int.not_lt, Int.not_le] at hc)); (try (simp (disch := first | omega | (simp <;> omega) | fail) only [push_cast, ↓reduceIte, Nat.reduceEqDiff, Nat.reduceAdd, Nat.reduceMul, Nat.reduceSub, Nat.reduceLT, Int.reduceToNat]))
    have hie : i = n := by omega
    subst hie
    have hw := cells_wr2 (h := h') (b := h.length) (cells_lt r8) (cs := [AV.int .i64 (i : Int), .sl bb 0 1 m m])
    have hpm : (h.length ≤ h.length) = True := by simp
    have f2 : ∀ c, c < h.length → (wr h' h.length [AV.int .i64 (i : Int), .sl bb 0 1 m m])[c]? = h[c]? := fun c hc => by
      unfold wr
      rw [List.getElem?_set_ne (by omega)]
      exact r2 c hc
    have f3 : (wr h' h.length [AV.int .i64 (i : Int), .sl bb 0 1 m m]).cells bb = some ((wordsN (mkN i g) m).map (.int .i64)) := by
      rw [cells_eq]
      unfold wr
      rw [List.getElem?_set_ne (by omega), ← cells_eq]
      exact r4
    (try (simp (disch := first | omega | (simp <;> omega) | fail) only [push_cast, ↓reduceIte, Nat.reduceEqDiff, Nat.reduceAdd, Nat.reduceMul, Nat.reduceSub, Nat.reduceLT, Int.reduceToNat, r3, r8, hpm, hw]))
    all_goals (try exact ⟨bb, rfl, by omega, f2, f3⟩)
    all_goals (try exact ⟨bb, rfl, by omega, by simp [wr]; omega, f2, f3⟩)
theorem c_impl_madeBits (n m f b0 : Nat) (cs : List AV) (g : Nat → Bool) (hn : n ≤ 5000) (hm : (((n : Int) + 15) / 16) = (m : Int)) (hg : ∀ i : Nat, i < n → Fn Tryz.prog f [.int .i64 i, .rad cs 0] (· = .bool (g i))) (hfree : ∀ c ∈ cs, Free c) (h : H) (hb : h.cells b0 = some cs) :
    Call Tryz.prog 84 [.int .i64 n, .fn f [.adr b0 0]] h Nowhere (fun x h' => ∃ bb, x = .agg [.int .i64 n, .sl bb 0 1 m m] ∧ h.length ≤ bb ∧ h.length ≤ h'.length ∧ (∀ c, c < h.length → h'[c]? = h[c]?) ∧ h'.cells bb = some ((wordsN (mkN n g) m).map (.int .i64))) :=
  c_impl_madeBits_g n m f [.adr b0 0] [.rad cs 0] g hn hm hg h fun h' _ hk => .adr (cells_keep (hk b0 (cells_lt hb)) hb) hfree .nil

theorem c_stringslite_HasPrefix (s w : Str) (hl : s.length ≤ 1000000000) (hw : w.length ≤ 1000000000) : Fn Tryz.prog 98 [.str s, .str w] (· = .bool (decide (w.length ≤ s.length) && decide (s.take w.length = w))) := by
  refine Fn.of free_bool fun h => ?_
  refine enter (by kernel_rfl) e98 (by kernel_rfl) rfl fun hok => ?_
  simp only [r98, initEnv_2]
  (try (simp (disch := first | omega | (simp <;> omega) | fail) only [push_cast, ↓reduceIte, Nat.reduceEqDiff, Nat.reduceAdd, Nat.reduceMul, Nat.reduceSub, Nat.reduceLT, Int.reduceToNat]))
  first | refine goC_split (fun hc => ?_) (fun hc => ?_) | refine cnd_split (fun hc => ?_) (fun hc => ?_)
  · (try (simp only [decide_eq_true_eq, decide_eq_false_iff_not, Bool.not_eq_true', Bool.not_eq_false', Bool.and_eq_true, Bool.or_eq_true, Int.not_lt, Int.not_le] at hc)); (try (simp (disch := first | omega | (simp <;> omega) | fail) only [push_cast, ↓reduceIte, Nat.reduceEqDiff, Nat.reduceAdd, Nat.reduceMul, Nat.reduceSub, Nat.reduceLT, Int.reduceToNat]))
    have hc2 : w.length ≤ s.length := by omega
    by_cases he : s.take w.length = w
    · (try (simp (disch := first | omega | (simp <;> omega) | fail) only [push_cast, ↓reduceIte, Nat.reduceEqDiff, Nat.reduceAdd, Nat.reduceMul, Nat.reduceSub, Nat.reduceLT, Int.reduceToNat, List.drop_zero, Nat.sub_zero, he]))
      all_goals (try simp [hc2])
    · (try (simp (disch := first | omega | (simp <;> omega) | fail) only [push_cast, ↓reduceIte, Nat.reduceEqDiff, Nat.reduceAdd, Nat.reduceMul, Nat.reduceSub, Nat.reduceLT, Int.reduceToNat, List.drop_zero, Nat.sub_zero, he]))
      all_goals (try simp [hc2])
  · (try (simp only [decide_eq_true_eq, decide_eq_false_iff_not, Bool.not_eq_true', Bool.not_eq_false', Bool.and_eq_true, Bool.or_eq_true, Int.not_lt, Int.not_le] at hc)); (try (simp (disch := first | omega | (simp <;> omega) | fail) only [push_cast, ↓reduceIte, Nat.reduceEqDiff, Nat.reduceAdd, Nat.reduceMul, Nat.reduceSub, Nat.reduceLT, Int.reduceToNat]))
    have hc2 : ¬ w.length ≤ s.length := by omega
    all_goals (try simp [hc2])

theorem c_strings_HasPrefix (s w : Str) (hl : s.length ≤ 1000000000) (hw : w.length ≤ 1000000000) : Fn Tryz.prog 48 [.str s, .str w] (· = .bool (decide (w.length ≤ s.length) && decide (s.take w.length = w))) := by
  refine Fn.of free_bool fun h => ?_
  refine enter (by kernel_rfl) e48 (by kernel_rfl) rfl fun hok => ?_
  simp only [r48, initEnv_2]
  (try (simp (disch := first | omega | (simp <;> omega) | fail) only [push_cast, ↓reduceIte, Nat.reduceEqDiff, Nat.reduceAdd, Nat.reduceMul, Nat.reduceSub, Nat.reduceLT, Int.reduceToNat]))
  refine (c_stringslite_HasPrefix s w hl hw).call ?_
  (try (simp (disch := first | omega | (simp <;> omega) | fail) only [push_cast, ↓reduceIte, Nat.reduceEqDiff, Nat.reduceAdd, Nat.reduceMul, Nat.reduceSub, Nat.reduceLT, Int.reduceToNat]))

theorem c_impl_childrenOf (o : Option (List Str)) (s : Str) (hs : s.length ≤ 1000) (ho : ∀ x ∈ lS o, x.length ≤ 1000) : Fn Tryz.prog 83 [eS o, .str s] (· = .int .i64 ((ch (lS o) s).length)) := by
  refine Fn.of free_int fun h => ?_
  refine enter (by kernel_rfl) e83 (by kernel_rfl) rfl fun hok => ?_
  simp only [r83, initEnv_2]
  have hlen := ok_eS (okV_0 hok)
  (try (simp (disch := first | omega | (simp <;> omega) | fail) only [push_cast, ↓reduceIte, Nat.reduceEqDiff, Nat.reduceAdd, Nat.reduceMul, Nat.reduceSub, Nat.reduceLT, Int.reduceToNat]))
  refine T_for (lS o).length (fun k e h' => Pins e [(1, .str s), (5, .int .i64 ((ch ((lS o).take k) s).length)), (8, eS o), (9, .int .i64 (lS o).length), (10, .int .i64 k)] ∧ h' = h ∧ (ch ((lS o).take k) s).length ≤ k) ?_ ?_
  · (try (simp (disch := first | omega | (simp <;> omega) | fail) only [push_cast, ↓reduceIte, Nat.reduceEqDiff, Nat.reduceAdd, Nat.reduceMul, Nat.reduceSub, Nat.reduceLT, Int.reduceToNat]))
    all_goals (try simp [ch])
  rintro k e h' hk ⟨hp, rfl, hle⟩
  refine T_pins hp fun e => ?_
  (try (simp (disch := first | omega | (simp <;> omega) | fail) only [push_cast, ↓reduceIte, Nat.reduceEqDiff, Nat.reduceAdd, Nat.reduceMul, Nat.reduceSub, Nat.reduceLT, Int.reduceToNat]))
  first | refine goC_split (fun hc => ?_) (fun hc => ?_) | refine cnd_split (fun hc => ?_) (fun hc => ?_)
  · (try (simp only [decide_eq_true_eq, decide_eq_false_iff_not, Bool.not_eq_true', Bool.not_eq_false', Bool.and_eq_true, Bool.or_eq_true, Int.not_lt, Int.not_le] at hc)); (try (simp (disch := first | omega | (simp <;> omega) | fail) only [push_cast, ↓reduceIte, Nat.reduceEqDiff, Nat.reduceAdd, Nat.reduceMul, Nat.reduceSub, Nat.reduceLT, Int.reduceToNat]))
    have hk2 : k < (lS o).length := by omega
    have htk : (lS o).take (k + 1) = (lS o).take k ++ [(lS o).getD k []] := by
      rw [List.take_add_one]
      simp [hk2]
    obtain ⟨y, hy⟩ : ∃ y, y = (lS o).getD k [] := ⟨_, rfl⟩
    have hyl : y.length ≤ 1000 := ho y (by rw [hy]; simp [hk2])
    rw [← hy] at htk
    have hnx : (ch ((lS o).take (k + 1)) s).length = (ch ((lS o).take k) s).length + if chB s y then 1 else 0 := by
      unfold ch
      rw [htk, List.filter_append, List.length_append]
      cases hb : chB s y <;> simp [hb]
    have hgd : (lS o)[k]?.getD [] = y := by rw [hy, List.getD_eq_getElem?_getD]
    by_cases c1 : y.length = s.length + 1
    · have c1' : ((y.length : Int) = (s.length : Int) + 1) = True := by simp; omega
      (try (simp (disch := first | omega | (simp <;> omega) | fail) only [push_cast, ↓reduceIte, Nat.reduceEqDiff, Nat.reduceAdd, Nat.reduceMul, Nat.reduceSub, Nat.reduceLT, Int.reduceToNat, ← hy, c1']))
      refine (c_strings_HasPrefix y s (by omega) (by omega)).call ?_
      have hbg : (decide (s.length ≤ y.length) && decide (y.take s.length = s)) = chB s y := by
        unfold chB
        rw [decide_eq_true c1, decide_eq_true (show s.length ≤ y.length by omega)]
      rw [hbg]
      cases hcb : chB s y
      · rw [hcb, if_neg (by simp)] at hnx
        (try (simp (disch := first | omega | (simp <;> omega) | fail) only [push_cast, ↓reduceIte, Nat.reduceEqDiff, Nat.reduceAdd, Nat.reduceMul, Nat.reduceSub, Nat.reduceLT, Int.reduceToNat, hnx]))
        all_goals (try omega)
      · rw [hcb, if_pos rfl] at hnx
        (try (simp (disch := first | omega | (simp <;> omega) | fail) only [push_cast, ↓reduceIte, Nat.reduceEqDiff, Nat.reduceAdd, Nat.reduceMul, Nat.reduceSub, Nat.reduceLT, Int.reduceToNat, hnx]))
        all_goals (try omega)
    · have hcb : chB s y = false := by
        unfold chB
        rw [decide_eq_false c1]
        rfl
      have c1' : ((y.length : Int) = (s.length : Int) + 1) = False := by simp; omega
      rw [hcb, if_neg (by simp)] at hnx
      (try (simp (disch := first | omega | (simp <;> omega) | fail) only [push_cast, ↓reduceIte, Nat.reduceEqDiff, Nat.reduceAdd, Nat.reduceMul, Nat.reduceSub, Nat.reduceLT, Int.reduceToNat, ← hy, c1', hnx]))
      all_goals (try omega)
  · (try (simp only [decide_eq_true_eq, decide_eq_false_iff_not, Bool.not_eq_true', Bool.not_eq_false', Bool.and_eq_true, Bool.or_eq_true, Int.not_lt, Int.not_le] at hc)); (try (simp (disch := first | omega | (simp <;> omega) | fail) only [push_cast, ↓reduceIte, Nat.reduceEqDiff, Nat.reduceAdd, Nat.reduceMul, Nat.reduceSub, Nat.reduceLT, Int.reduceToNat]))
    have hke : k = (lS o).length := by omega
    subst hke
    rw [List.take_length]
    (try (simp (disch := first | omega | (simp <;> omega) | fail) only [push_cast, ↓reduceIte, Nat.reduceEqDiff, Nat.reduceAdd, Nat.reduceMul, Nat.reduceSub, Nat.reduceLT, Int.reduceToNat]))

theorem andm32 (x : Int) : 0 ≤ bitsI .and .u64 x 4294967295 ∧ bitsI .and .u64 x 4294967295 ≤ 4294967295 := by
  have h1 : (BitVec.ofInt 64 x &&& BitVec.ofInt 64 4294967295).toNat ≤ 4294967295 := by
    rw [BitVec.toNat_and]
    exact Nat.le_trans Nat.and_le_right (by decide)
  have h2 : bitsI .and .u64 x 4294967295 = ((BitVec.ofInt 64 x &&& BitVec.ofInt 64 4294967295).toNat : Int) := by
    show IntKind.u64.wrap ((BitVec.ofInt 64 x &&& BitVec.ofInt 64 4294967295).toNat : Int) = _
    rw [IntKind.wrap_u64]
    omega
  rw [h2]
  omega
theorem c_bits_Mul64 (n : Int) (h0 : 0 ≤ n) (h1 : n ≤ 1000000) : Fn Tryz.prog 167 [.int .u64 1, .int .u64 n] (· = .tup [.int .u64 0, .int .u64 n]) := by
  refine Fn.of (free_tup (free_cons_ free_int (free_cons_ free_int free_nil_))) fun h => ?_
  refine enter (by kernel_rfl) e167 (by kernel_rfl) rfl fun hok => ?_
  simp only [r167, initEnv_2]
  have hA := andm32 n
  have w : ∀ z, 0 ≤ z → z ≤ 4294967295 → IntKind.u64.wrap z = z := fun z h0 h1 => by
    rw [IntKind.wrap_u64]
    omega
  have fd : ∀ z : Int, 0 ≤ z → z ≤ 4294967295 → z.fdiv 4294967296 = 0 := fun z h0 h1 => by
    rw [Int.fdiv_eq_ediv_of_nonneg _ (by decide)]
    exact Int.ediv_eq_zero_of_lt h0 (by omega)
  have e2 : (2 : Int) ^ min 32 IntKind.u64.bits = 4294967296 := by decide
  have e3 : bitsI .and .u64 1 4294967295 = 1 := by decide
  have e6 : bitsI .and .u64 0 4294967295 = 0 := by decide
  have e1 := fd 1 (by decide) (by decide)
  have e4 := fd n h0 (by omega)
  have e5 := fd _ hA.1 hA.2
  have w0 := w 0 (by decide) (by decide)
  have wA := w _ hA.1 hA.2
  have wn := w n h0 (by omega)
  have f0 := fd 0 (by decide) (by decide)
  (try (simp (disch := first | omega | (simp <;> omega) | fail) only [push_cast, ↓reduceIte, Nat.reduceEqDiff, Nat.reduceAdd, Nat.reduceMul, Nat.reduceSub, Nat.reduceLT, Int.reduceToNat]))
  simp only [e2, e3, e1, e4, Int.zero_mul, Int.one_mul, w0, wA, Int.zero_add, Int.add_zero, e5, e6, f0, wn]

theorem c_bits_Mul (n : Int) (h0 : 0 ≤ n) (h1 : n ≤ 1000000) : Fn Tryz.prog 137 [.int .u64 1, .int .u64 n] (· = .tup [.int .u64 0, .int .u64 n]) := by
  refine Fn.of (free_tup (free_cons_ free_int (free_cons_ free_int free_nil_))) fun h => ?_
  refine enter (by kernel_rfl) e137 (by kernel_rfl) rfl fun hok => ?_
  simp only [r137, initEnv_2]
  (try (simp (disch := first | omega | (simp <;> omega) | fail) only [push_cast, ↓reduceIte, Nat.reduceEqDiff, Nat.reduceAdd, Nat.reduceMul, Nat.reduceSub, Nat.reduceLT, Int.reduceToNat]))
  refine (c_bits_Mul64 n h0 h1).call ?_
  (try (simp (disch := first | omega | (simp <;> omega) | fail) only [push_cast, ↓reduceIte, Nat.reduceEqDiff, Nat.reduceAdd, Nat.reduceMul, Nat.reduceSub, Nat.reduceLT, Int.reduceToNat]))

--eng ev1_cpy cpyA_sl cpyC_some
def cpyC (h : H) (Q : AV → H → Prop) (b off sz len : Nat) (src : List AV) (n : Nat) : Option (List AV) → Prop
  | none => False
  | some cs => off + len * sz ≤ cs.length ∧ Q (.int .i64 (min n len : Nat)) (wr h b (over cs off (src.take (min n len * sz))))
def cpyA (pm : Nat → Prop) (h : H) (Q : AV → H → Prop) (sz : Nat) (s : Option (List AV × Nat)) (v : AV) : Prop := match s with
  | none => False
  | some (src, n) => match v with
    | .nils => Q (.int .i64 0) h
    | .sl b off sz' len _ => sz = sz' ∧ pm b ∧ cpyC h Q b off sz len src n (h.cells b)
    | _ => False
theorem ev1_cpy {pm : Nat → Prop} {e : Env} {h : H} {Q : AV → H → Prop} {st : Bool} {sz : Nat} {a b : Opd} : ev1 pm e h Q (.cpy st sz a b) = cpyA pm h Q sz (srcCells h st sz (evO e b)) (evO e a) := by
  simp only [ev1]
  generalize srcCells h st sz (evO e b) = s
  generalize evO e a = v
  cases s with
  | none => rfl
  | some p =>
    cases v <;> rfl
theorem cpyA_sl {pm : Nat → Prop} {h : H} {Q : AV → H → Prop} {sz b off len kc n : Nat} {src : List AV} : cpyA pm h Q sz (some (src, n)) (.sl b off sz len kc) = (pm b ∧ cpyC h Q b off sz len src n (h.cells b)) := by simp only [cpyA, true_and]
theorem cpyC_some {h : H} {Q : AV → H → Prop} {sz b off len n : Nat} {src cs : List AV} : cpyC h Q b off sz len src n (some cs) = (off + len * sz ≤ cs.length ∧ Q (.int .i64 (min n len : Nat)) (wr h b (over cs off (src.take (min n len * sz))))) := rfl

attribute [push_cast] ev1_cpy cpyA_sl cpyC_some
def repL (n c : Nat) : List AV := List.replicate n (.bool true) ++ List.replicate (c - n) (.bool false)
theorem repL_len {n c : Nat} (h : n ≤ c) : (repL n c).length = c := by simp [repL]; omega
theorem repL_put {n c m : Nat} (h : n + m ≤ c) : over (repL n c) n (List.replicate m (.bool true)) = repL (n + m) c := by
  unfold over repL
  rw [List.take_left' (by simp), List.drop_append, List.length_replicate, List.drop_of_length_le (by simp), List.nil_append, List.length_replicate, List.drop_replicate, List.replicate_append_replicate]
  congr 2
  omega
theorem repL_src {h : H} {bb n c : Nat} (hb : h.cells bb = some (repL n c)) (hn : n ≤ c) : srcCells h false 1 (.sl bb 0 1 n c) = some (List.replicate n (.bool true), n) := by
  rw [src_sl, hb]
  simp only [Option.bind_some, Nat.mul_one, Nat.zero_add, List.drop_zero]
  rw [if_pos (by rw [repL_len hn]; exact hn)]
  unfold repL
  rw [List.take_left' (by simp)]
theorem c_slices_Repeat_bool (b c : Nat) (h : H) (hb : h.cells b = some [.bool true]) (hc : c ≤ 100000) :
    Call Tryz.prog 82 [.sl b 0 1 1 1, .int .i64 c] h Nowhere (fun x h' => ∃ bb, x = .sl bb 0 1 c c ∧ h.length ≤ bb ∧ h.length ≤ h'.length ∧ (∀ k, k < h.length → h'[k]? = h[k]?) ∧ h'.cells bb = some (List.replicate c (.bool true))) := by
  refine enter (by kernel_rfl) e82 (by kernel_rfl) rfl fun hok => ?_
  simp only [r82, initEnv_2]
  have hbl := cells_lt hb
  have w : ∀ z : Int, 0 ≤ z → z ≤ 4294967295 → IntKind.u64.wrap z = z := fun z h0 h1 => by
    rw [IntKind.wrap_u64]
    omega
  have w1 := w 1 (by decide) (by decide)
  have wc := w c (by omega) (by omega)
  have wi : IntKind.i64.wrap (c : Int) = c := wrap_ok (by omega) (by omega)
  (try (simp (disch := first | omega | (simp <;> omega) | fail) only [push_cast, ↓reduceIte, Nat.reduceEqDiff, Nat.reduceAdd, Nat.reduceMul, Nat.reduceSub, Nat.reduceLT, Int.reduceToNat, w1, wc]))
  refine (c_bits_Mul c (by omega) (by omega)).call ?_
  have c0 : (0 : Int) ≤ c := by omega
  have hr0 : List.replicate c (AV.bool false) = repL 0 c := by simp [repL]
  have hin : H.cells (h ++ [some (.cells (repL 0 c))]) h.length = some (repL 0 c) := by rw [cells_h0]; rfl
  have hbb : ∀ l, H.cells (h ++ l) b = some [.bool true] := fun l => cells_app hb
  have hsrc : ∀ l, srcCells (h ++ l) false 1 (.sl b 0 1 1 1) = some ([.bool true], 1) := fun l => by
    rw [src_sl, hbb]
    rfl
  obtain ⟨n0, hn0⟩ : ∃ n0, n0 = min 1 c := ⟨_, rfl⟩
  have hov : over (repL 0 c) 0 (([.bool true] : List AV).take (n0 * 1)) = repL n0 c := by
    have e1 : ([.bool true] : List AV).take (n0 * 1) = List.replicate n0 (.bool true) := by
      rcases (by omega : n0 = 0 ∨ n0 = 1) with h5 | h5 <;> rw [h5] <;> rfl
    have e2 := repL_put (n := 0) (m := n0) (c := c) (by omega)
    rw [Nat.zero_add] at e2
    rw [e1]
    exact e2
  have hlr : (repL 0 c).length = c := repL_len (by omega)
  (try (simp (disch := first | omega | (simp <;> omega) | fail) only [push_cast, ↓reduceIte, Nat.reduceEqDiff, Nat.reduceAdd, Nat.reduceMul, Nat.reduceSub, Nat.reduceLT, Int.reduceToNat, w1, wc, wi, hr0, hsrc, hin, hlr, ← hn0, hov]))
  have hs0 : ∀ cs, (∀ k, k < h.length → (wr (h ++ [some (.cells (repL 0 c))]) h.length cs)[k]? = h[k]?) ∧ H.cells (wr (h ++ [some (.cells (repL 0 c))]) h.length cs) h.length = some cs := fun cs => ⟨fun k hk => by
    unfold wr
    rw [List.getElem?_set_ne (by omega)]
    exact List.getElem?_append_left hk, cells_wr2 (by simp)⟩
  have hln : ∀ cs, h.length ≤ (wr (h ++ [some (.cells (repL 0 c))]) h.length cs).length := fun cs => by simp [wr]
  refine T_for c (fun i e h' => ∃ n : Nat, Pins e [(7, .sl h.length 0 1 c c), (8, .int .i64 n)] ∧ ((∀ k, k < h.length → h'[k]? = h[k]?) ∧ h.length ≤ h'.length ∧ H.cells h' h.length = some (repL n c)) ∧ n ≤ c ∧ (n < c → i + 1 ≤ n)) ?_ ?_
  · refine ⟨n0, ?_⟩
    have hov1 : over (repL 0 c) 0 (List.take n0 [AV.bool true]) = repL n0 c := by simpa using hov
    (try (simp (disch := first | omega | (simp <;> omega) | fail) only [push_cast, ↓reduceIte, Nat.reduceEqDiff, Nat.reduceAdd, Nat.reduceMul, Nat.reduceSub, Nat.reduceLT, Int.reduceToNat]))
    rw [hov1]
    exact ⟨⟨fun k hk => List.getElem?_append_left hk, rfl⟩, by omega⟩
  rintro i e h' hi ⟨n, hp, ⟨hk, hl, hcb⟩, hn, hin2⟩
  refine T_pins hp fun e => ?_
  (try (simp (disch := first | omega | (simp <;> omega) | fail) only [push_cast, ↓reduceIte, Nat.reduceEqDiff, Nat.reduceAdd, Nat.reduceMul, Nat.reduceSub, Nat.reduceLT, Int.reduceToNat]))
  first | refine goC_split (fun hc => ?_) (fun hc => ?_) | refine cnd_split (fun hc => ?_) (fun hc => ?_)
  · (try (simp only [decide_eq_true_eq, decide_eq_false_iff_not, Bool.not_eq_true', Bool.not_eq_false', Bool.and_eq_true, Bool.or_eq_true, Int.not_lt, Int.not_le] at hc)); (try (simp (disch := first | omega | (simp <;> omega) | fail) only [push_cast, ↓reduceIte, Nat.reduceEqDiff, Nat.reduceAdd, Nat.reduceMul, Nat.reduceSub, Nat.reduceLT, Int.reduceToNat]))
    have hnc : n < c := by omega
    have hni := hin2 hnc
    have hs1 : slcA 1 (some (.int .i64 n)) none (.sl h.length 0 1 c c) = some (.sl h.length n 1 (c - n) (c - n)) := by
      rw [slcA_sl, bndA_none, Option.bind_some, bndA_int (by omega) (by omega)]
      simp
    have hs2 : slcA 1 none (some (.int .i64 n)) (.sl h.length 0 1 c c) = some (.sl h.length 0 1 n c) := by
      rw [slcA_sl, bndA_int (by omega) (by omega)]
      simp [bndA_none]
    have hs3 := repL_src hcb hn
    have hlr2 : (repL n c).length = c := repL_len hn
    obtain ⟨m, hm⟩ : ∃ m, m = min n (c - n) := ⟨_, rfl⟩
    have hov2 : over (repL n c) n ((List.replicate n (AV.bool true)).take (m * 1)) = repL (n + m) c := by
      rw [List.take_replicate, show min (m * 1) n = m by omega]
      exact repL_put (by omega)
    have htk : (repL n c).take n = List.replicate n (.bool true) := by
      unfold repL
      rw [List.take_left' (by simp)]
    rw [Nat.mul_one] at hov2
    (try (simp (disch := first | omega | (simp <;> omega) | fail) only [push_cast, ↓reduceIte, Nat.reduceEqDiff, Nat.reduceAdd, Nat.reduceMul, Nat.reduceSub, Nat.reduceLT, Int.reduceToNat, hs1, hs2, hs3, hcb, hlr2, reads, List.mem_cons, List.mem_append, List.not_mem_nil, nat_ff, or_self, or_false, false_or, not_false_eq_true]))
    refine ⟨n + m, ?_⟩
    simp only [Nat.sub_zero, List.drop_zero, htk, ← hm]
    rw [hov2]
    exact ⟨by omega, ⟨fun k hk2 => by
      unfold wr
      rw [List.getElem?_set_ne (by omega)]
      exact hk k hk2, by simpa [wr] using hl, cells_wr2 (cells_lt hcb)⟩, by omega, by omega⟩
  · (try (simp only [decide_eq_true_eq, decide_eq_false_iff_not, Bool.not_eq_true', Bool.not_eq_false', Bool.and_eq_true, Bool.or_eq_true, Int.not_lt, Int.not_le] at hc)); (try (simp (disch := first | omega | (simp <;> omega) | fail) only [push_cast, ↓reduceIte, Nat.reduceEqDiff, Nat.reduceAdd, Nat.reduceMul, Nat.reduceSub, Nat.reduceLT, Int.reduceToNat]))
    have hnc : n = c := by omega
    subst hnc
    have hrl : repL n n = List.replicate n (.bool true) := by simp [repL]
    rw [hrl] at hcb
    (try (simp (disch := first | omega | (simp <;> omega) | fail) only [push_cast, ↓reduceIte, Nat.reduceEqDiff, Nat.reduceAdd, Nat.reduceMul, Nat.reduceSub, Nat.reduceLT, Int.reduceToNat]))
    all_goals (try exact ⟨_, rfl, Nat.le_refl _, hk, hcb⟩)

theorem c_impl_trie1 (L : List Bool) (i : Nat) (hi : i < L.length) : Fn Tryz.prog 85 [.int .i64 i, .rad [eO (some L)] 0] (· = .bool (L.getD i false)) := by
  refine Fn.of free_bool fun h => ?_
  refine enter (by kernel_rfl) e85 (by kernel_rfl) rfl fun hok => ?_
  simp only [r85, initEnv_2]
  have hlO : lO (some L) = L := rfl
  have hlOl : (lO (some L)).length = L.length := rfl
  (try (simp (disch := first | omega | (simp <;> omega) | fail) only [push_cast, ↓reduceIte, Nat.reduceEqDiff, Nat.reduceAdd, Nat.reduceMul, Nat.reduceSub, Nat.reduceLT, Int.reduceToNat, hlO]))

/-- What spec's search tells: the place, or -1. -/
def fndI (l : List Str) (s : Str) : Int := if s ∈ l then (l.idxOf s : Int) else -1
theorem idx_at {l : List Str} {s : Str} {i : Nat} (hi : i < l.length) (h : l.getD i [] = s) (hn : s ∉ l.take i) : fndI l s = i := by
  have hs : l[i] = s := by
    rw [List.getD_eq_getElem?_getD, List.getElem?_eq_getElem hi] at h
    exact h
  have hm : s ∈ l := hs ▸ List.getElem_mem hi
  unfold fndI
  rw [if_pos hm]
  have e : l = l.take i ++ s :: l.drop (i + 1) := by
    conv => lhs; rw [← List.take_append_drop i l, List.drop_eq_getElem_cons hi, hs]
  conv => lhs; rw [e]
  rw [List.idxOf_append, if_neg hn, List.idxOf_cons_self, List.length_take]
  omega
theorem fnd_no {l : List Str} {s : Str} (h : s ∉ l) : fndI l s = -1 := if_neg h
theorem fnd_in {l : List Str} {s : Str} (h : s ∈ l) : ∃ i : Nat, fndI l s = i ∧ i < l.length ∧ l.getD i [] = s ∧ s ∉ l.take i := by
  have hl := List.idxOf_lt_length_of_mem h
  have hg : l[l.idxOf s] = s := List.getElem_idxOf hl
  refine ⟨l.idxOf s, if_pos h, hl, by rw [List.getD_eq_getElem?_getD, List.getElem?_eq_getElem hl, hg]; rfl, fun h5 => ?_⟩
  obtain ⟨j, hj, hjs⟩ := List.mem_iff_getElem.1 h5
  rw [List.getElem_take] at hjs
  rw [List.length_take] at hj
  have : l.idxOf s ≤ j := by
    have e : l = l.take j ++ s :: l.drop (j + 1) := by
      conv => lhs; rw [← List.take_append_drop j l, List.drop_eq_getElem_cons (show j < l.length by omega), hjs]
    rw [e, List.idxOf_append]
    split
    · rename_i h7
      have := List.idxOf_lt_length_of_mem h7
      rw [List.length_take] at this
      omega
    · rw [List.idxOf_cons_self, List.length_take]
      omega
  omega
theorem fnd_lo {l : List Str} {s : Str} : -1 ≤ fndI l s := by
  unfold fndI
  split <;> omega
theorem fnd_hi {l : List Str} {s : Str} : fndI l s < l.length := by
  unfold fndI
  split
  · rename_i h
    have := List.idxOf_lt_length_of_mem h
    omega
  · omega
theorem fnd_neg {l : List Str} {s : Str} : fndI l s < 0 ↔ s ∉ l := by
  unfold fndI
  split
  · rename_i h
    simp [h]
  · rename_i h
    simp [h]
/-- Keys in the order of their nodes: the place of one is the number of those before it. -/
theorem fnd_filter {N : List Str} {p : Str → Bool} {s : Str} {i : Nat} (h : fndI N s = i) (hp : p s = true) : fndI (N.filter p) s = ((N.take i).filter p).length := by
  have hm : s ∈ N := by
    apply Classical.byContradiction
    intro h5
    rw [fnd_no h5] at h
    omega
  obtain ⟨j, h1, h2, h3, h4⟩ := fnd_in hm
  have : j = i := by omega
  subst this
  have hs : N[j] = s := by
    rw [List.getD_eq_getElem?_getD, List.getElem?_eq_getElem h2] at h3
    exact h3
  have e : N = N.take j ++ s :: N.drop (j + 1) := by
    conv => lhs; rw [← List.take_append_drop j N, List.drop_eq_getElem_cons h2, hs]
  have e2 : N.filter p = (N.take j).filter p ++ s :: (N.drop (j + 1)).filter p := by
    conv => lhs; rw [e]
    rw [List.filter_append, List.filter_cons, if_pos hp]
  refine idx_at ?_ ?_ ?_
  · rw [e2]
    simp
  · rw [e2]
    simp
  · rw [e2, List.take_append_of_le_length (Nat.le_refl _), List.take_length]
    exact fun h5 => h4 (List.mem_filter.1 h5).1
/-- How many strings are less than another one. -/
def rkS (l : List Str) (s : Str) : Nat := (l.filter fun x => Op.bytesLess x s).length
theorem rk_at {l : List Str} {s : Str} {i : Nat} (hi : i ≤ l.length) (h1 : ∀ j, j < i → Op.bytesLess (l.getD j []) s = true) (h2 : ∀ j, i ≤ j → j < l.length → Op.bytesLess (l.getD j []) s = false) : rkS l s = i := by
  unfold rkS
  have e : l = l.take i ++ l.drop i := (List.take_append_drop i l).symm
  rw [e, List.filter_append, List.filter_eq_self.2, List.filter_eq_nil_iff.2]
  · simp
    omega
  · intro x hx
    obtain ⟨j, hj, rfl⟩ := List.mem_iff_getElem.1 hx
    rw [List.length_drop] at hj
    have := h2 (i + j) (by omega) (by omega)
    rw [List.getD_eq_getElem?_getD, List.getElem?_eq_getElem (by omega)] at this
    simp only [Option.getD_some] at this
    rw [List.getElem_drop, this]
    simp
  · intro x hx
    obtain ⟨j, hj, rfl⟩ := List.mem_iff_getElem.1 hx
    rw [List.length_take] at hj
    have := h1 j (by omega)
    rw [List.getD_eq_getElem?_getD, List.getElem?_eq_getElem (by omega)] at this
    simp only [Option.getD_some] at this
    rw [List.getElem_take, this]
theorem slt_lo {l : List Str} (h : l.Pairwise slt) {s : Str} {i j : Nat} (hij : j ≤ i) (hi : i < l.length) (hl : Op.bytesLess (l.getD i []) s = true) : Op.bytesLess (l.getD j []) s = true := by
  rcases Nat.lt_or_ge j i with h5 | h5
  · have := List.pairwise_iff_getElem.1 h j i (by omega) hi h5
    rw [List.getD_eq_getElem?_getD, List.getElem?_eq_getElem hi] at hl
    rw [List.getD_eq_getElem?_getD, List.getElem?_eq_getElem (show j < l.length by omega)]
    exact bl_trans this hl
  · rw [show j = i by omega]
    exact hl
theorem slt_hi {l : List Str} (h : l.Pairwise slt) {s : Str} {i j : Nat} (hij : i ≤ j) (hj : j < l.length) (hl : Op.bytesLess (l.getD i []) s = false) : Op.bytesLess (l.getD j []) s = false := by
  cases hc : Op.bytesLess (l.getD j []) s
  · rfl
  · rw [slt_lo h hij hj hc] at hl
    cases hl
/-- The parent of a node is a node. -/
theorem par_node {K : List Str} (hK : okKeys K = true) {s : Str} (hs : s ∈ nodesK K) (h : s ≠ []) : s.take (s.length - 1) ∈ nodesK K := by
  rcases ((nodesK_ok hK).2 s).1 hs with h5 | ⟨k, hk, h5⟩
  · exact absurd h5 h
  · refine ((nodesK_ok hK).2 _).2 (.inr ⟨k, hk, ?_⟩)
    have hl : s.length ≤ k.length := by
      have := congrArg List.length h5
      rw [List.length_take] at this
      omega
    conv => lhs; rw [h5]
    rw [List.take_take, List.length_take]
    congr 1
    have := List.length_take (i := s.length - 1) (l := s)
    rw [this, Nat.min_eq_left (by omega : s.length ≤ k.length)]
theorem node_ne {K : List Str} (hK : okKeys K = true) {i : Nat} (h1 : 1 ≤ i) (h2 : i < (nodesK K).length) : (nodesK K).getD i [] ≠ [] := by
  obtain ⟨R, hR, _, hR3⟩ := (nodesK_tri hK).head
  rw [hR] at h2 ⊢
  rw [List.getD_eq_getElem?_getD, show i = (i - 1) + 1 by omega, List.getElem?_cons_succ]
  have : i - 1 < R.length := by simp at h2; omega
  rw [List.getElem?_eq_getElem this]
  exact hR3 _ (List.getElem_mem this)
theorem bgB {s x : Str} : (decide (s.length ≤ x.length) && decide (x.take s.length = s)) = decide (s <+: x) := by
  rw [Bool.eq_iff_iff]
  simp only [Bool.and_eq_true, decide_eq_true_eq]
  constructor
  · rintro ⟨_, h⟩
    rw [← h]
    exact List.take_prefix _ _
  · rintro ⟨t, rfl⟩
    simp

theorem c_slices_Index_string (o : Option (List Str)) (s : Str) : Fn Tryz.prog 93 [eS o, .str s] (· = .int .i64 (fndI (lS o) s)) := by
  refine Fn.of free_int fun h => ?_
  refine enter (by kernel_rfl) e93 (by kernel_rfl) rfl fun hok => ?_
  simp only [r93, initEnv_2]
  have hlen := ok_eS (okV_0 hok)
  (try (simp (disch := first | omega | (simp <;> omega) | fail) only [push_cast, ↓reduceIte, Nat.reduceEqDiff, Nat.reduceAdd, Nat.reduceMul, Nat.reduceSub, Nat.reduceLT, Int.reduceToNat]))
  refine T_for (lS o).length (fun i e h' => Pins e [(0, eS o), (1, .str s), (6, eS o), (7, .int .i64 (lS o).length), (8, .int .i64 i)] ∧ h' = h ∧ s ∉ (lS o).take i) ?_ ?_
  · (try (simp (disch := first | omega | (simp <;> omega) | fail) only [push_cast, ↓reduceIte, Nat.reduceEqDiff, Nat.reduceAdd, Nat.reduceMul, Nat.reduceSub, Nat.reduceLT, Int.reduceToNat]))
    all_goals (try simp)
  rintro i e h' hi ⟨hp, rfl, ha⟩
  refine T_pins hp fun e => ?_
  (try (simp (disch := first | omega | (simp <;> omega) | fail) only [push_cast, ↓reduceIte, Nat.reduceEqDiff, Nat.reduceAdd, Nat.reduceMul, Nat.reduceSub, Nat.reduceLT, Int.reduceToNat]))
  first | refine goC_split (fun hc => ?_) (fun hc => ?_) | refine cnd_split (fun hc => ?_) (fun hc => ?_)
  · (try (simp only [decide_eq_true_eq, decide_eq_false_iff_not, Bool.not_eq_true', Bool.not_eq_false', Bool.and_eq_true, Bool.or_eq_true, Int.not_lt, Int.not_le] at hc)); (try (simp (disch := first | omega | (simp <;> omega) | fail) only [push_cast, ↓reduceIte, Nat.reduceEqDiff, Nat.reduceAdd, Nat.reduceMul, Nat.reduceSub, Nat.reduceLT, Int.reduceToNat]))
    have hi2 : i < (lS o).length := by omega
    have htk : (lS o).take (i + 1) = (lS o).take i ++ [(lS o).getD i []] := by
      rw [List.take_add_one]
      simp [hi2]
    by_cases hx : s = (lS o).getD i []
    · rw [idx_at hi2 hx.symm ha]
      (try (simp (disch := first | omega | (simp <;> omega) | fail) only [push_cast, ↓reduceIte, Nat.reduceEqDiff, Nat.reduceAdd, Nat.reduceMul, Nat.reduceSub, Nat.reduceLT, Int.reduceToNat, ← hx]))
    · have hn : s ∉ (lS o).take (i + 1) := by
        rw [htk, List.mem_append, List.mem_singleton]
        exact fun h5 => h5.elim ha fun h7 => hx h7
      (try (simp (disch := first | omega | (simp <;> omega) | fail) only [push_cast, ↓reduceIte, Nat.reduceEqDiff, Nat.reduceAdd, Nat.reduceMul, Nat.reduceSub, Nat.reduceLT, Int.reduceToNat, hx]))
      all_goals (try exact hn)
  · (try (simp only [decide_eq_true_eq, decide_eq_false_iff_not, Bool.not_eq_true', Bool.not_eq_false', Bool.and_eq_true, Bool.or_eq_true, Int.not_lt, Int.not_le] at hc)); (try (simp (disch := first | omega | (simp <;> omega) | fail) only [push_cast, ↓reduceIte, Nat.reduceEqDiff, Nat.reduceAdd, Nat.reduceMul, Nat.reduceSub, Nat.reduceLT, Int.reduceToNat]))
    have hie : i = (lS o).length := by omega
    subst hie
    rw [List.take_length] at ha
    rw [fnd_no ha]
    (try (simp (disch := first | omega | (simp <;> omega) | fail) only [push_cast, ↓reduceIte, Nat.reduceEqDiff, Nat.reduceAdd, Nat.reduceMul, Nat.reduceSub, Nat.reduceLT, Int.reduceToNat]))

theorem c_slices_Contains_string (o : Option (List Str)) (s : Str) : Fn Tryz.prog 44 [eS o, .str s] (· = .bool (decide (s ∈ lS o))) := by
  refine Fn.of free_bool fun h => ?_
  refine enter (by kernel_rfl) e44 (by kernel_rfl) rfl fun hok => ?_
  simp only [r44, initEnv_2]
  (try (simp (disch := first | omega | (simp <;> omega) | fail) only [push_cast, ↓reduceIte, Nat.reduceEqDiff, Nat.reduceAdd, Nat.reduceMul, Nat.reduceSub, Nat.reduceLT, Int.reduceToNat]))
  refine (c_slices_Index_string o s).call ?_
  have e1 : decide (s ∈ lS o) = decide (0 ≤ fndI (lS o) s) := by
    rw [decide_eq_decide]
    have := @fnd_neg (lS o) s
    constructor
    · intro h5
      have := mt this.1 (by simpa using h5)
      omega
    · intro h5
      refine Classical.byContradiction fun h7 => ?_
      have := this.2 h7
      omega
  rw [e1]
  (try (simp (disch := first | omega | (simp <;> omega) | fail) only [push_cast, ↓reduceIte, Nat.reduceEqDiff, Nat.reduceAdd, Nat.reduceMul, Nat.reduceSub, Nat.reduceLT, Int.reduceToNat]))
  first | refine goC_split (fun hc => ?_) (fun hc => ?_) | refine cnd_split (fun hc => ?_) (fun hc => ?_)
  · (try (simp only [decide_eq_true_eq, decide_eq_false_iff_not, Bool.not_eq_true', Bool.not_eq_false', Bool.and_eq_true, Bool.or_eq_true, Int.not_lt, Int.not_le] at hc)); (try (simp (disch := first | omega | (simp <;> omega) | fail) only [push_cast, ↓reduceIte, Nat.reduceEqDiff, Nat.reduceAdd, Nat.reduceMul, Nat.reduceSub, Nat.reduceLT, Int.reduceToNat]))
    all_goals (try simp [hc])
  · (try (simp only [decide_eq_true_eq, decide_eq_false_iff_not, Bool.not_eq_true', Bool.not_eq_false', Bool.and_eq_true, Bool.or_eq_true, Int.not_lt, Int.not_le] at hc)); (try (simp (disch := first | omega | (simp <;> omega) | fail) only [push_cast, ↓reduceIte, Nat.reduceEqDiff, Nat.reduceAdd, Nat.reduceMul, Nat.reduceSub, Nat.reduceLT, Int.reduceToNat]))
    all_goals (try simp [hc])

theorem c_impl_trie2 (o : Option (List Str)) (N : List Str) (i : Nat) (hi : i < N.length) : Fn Tryz.prog 86 [.int .i64 i, .rad [eS o] 0, .rad [eS (some N)] 0] (· = .bool (decide (N.getD i [] ∈ lS o))) := by
  refine Fn.of free_bool fun h => ?_
  refine enter (by kernel_rfl) e86 (by kernel_rfl) rfl fun hok => ?_
  simp only [r86, initEnv_3]
  have hlN : lS (some N) = N := rfl
  have hlNl : (lS (some N)).length = N.length := rfl
  (try (simp (disch := first | omega | (simp <;> omega) | fail) only [push_cast, ↓reduceIte, Nat.reduceEqDiff, Nat.reduceAdd, Nat.reduceMul, Nat.reduceSub, Nat.reduceLT, Int.reduceToNat, hlN]))
  refine (c_slices_Contains_string o (N.getD i [])).call ?_
  (try (simp (disch := first | omega | (simp <;> omega) | fail) only [push_cast, ↓reduceIte, Nat.reduceEqDiff, Nat.reduceAdd, Nat.reduceMul, Nat.reduceSub, Nat.reduceLT, Int.reduceToNat, hlN]))

/-- A node's part of a shape, put behind the shape: what the operations of the region meet. -/
structure TX where
  g : H
  b3 : Nat
  b4 : Nat
  v : AV
  L : List Bool
  B : List Nat
  N : List Str
  s : Str
  E : Env
def TX.c (X : TX) : Nat := (ch X.N X.s).length
def TX.L1 (X : TX) : List AV := X.L.map .bool ++ List.replicate X.c (.bool true)
def TX.L2 (X : TX) : List AV := X.L1 ++ [.bool false]
def TX.ok (X : TX) : Prop := S1 X.g 1 X.v X.L.length (X.L.map .bool) X.B ∧ X.g.cells X.b4 = some [X.v] ∧ X.g.cells X.b3 = some [eS (some X.N)] ∧ X.b4 ∉ X.B ∧ X.b3 ∉ X.B ∧ X.b3 ≠ X.b4 ∧ X.s.length ≤ 12 ∧ (∀ x ∈ X.N, x.length ≤ 12) ∧ X.N.length ≤ 481 ∧ X.L.length ≤ 2000 ∧ X.E 3 = .adr X.b3 0 ∧ X.E 4 = .adr X.b4 0 ∧ X.E 7 = .str X.s
def TX.ph (X : TX) (S : List Nat) (h : H) (i : Nat) (x : AV) : Prop := match i with
  | 0 => x = X.v
  | 1 => 5 ∈ S ∨ ∃ b, x = .sl b 0 1 1 1 ∧ h.cells b = some [.bool true] ∧ X.g.length ≤ b
  | 2 => x = eS (some X.N)
  | 3 => x = .str X.s
  | 4 => x = .int .i64 X.c
  | 5 => 6 ∈ S ∨ ∃ b, x = .sl b 0 1 X.c X.c ∧ h.cells b = some (List.replicate X.c (.bool true)) ∧ X.g.length ≤ b
  | 6 => 8 ∈ S ∨ ∃ B, S1 h 1 x (X.L.length + X.c) X.L1 B ∧ ∀ k ∈ B, k ∈ X.B ∨ X.g.length ≤ k
  | 7 => 8 ∈ S ∨ ∃ b, x = .sl b 0 1 1 1 ∧ h.cells b = some [.bool false] ∧ X.g.length ≤ b
  | 8 => ∃ B, S1 h 1 x (X.L.length + X.c + 1) X.L2 B ∧ ∀ k ∈ B, k ∈ X.B ∨ X.g.length ≤ k
  | _ => True
def TX.cl (S : List Nat) : Prop := (4 ∈ S → 2 ∈ S ∧ 3 ∈ S) ∧ (5 ∈ S → 1 ∈ S ∧ 4 ∈ S) ∧ (6 ∈ S → 0 ∈ S ∧ 5 ∈ S) ∧ (8 ∈ S → 6 ∈ S ∧ 7 ∈ S) ∧ (9 ∈ S → 8 ∈ S)
def TX.apart (S : List Nat) (e : Env) : Prop := 6 ∈ S → 7 ∈ S → 8 ∈ S ∨ ∀ b n b', e 25 = .sl b 0 1 n n → e 26 = .sl b' 0 1 1 1 → b ≠ b'
def TX.st (X : TX) (S : List Nat) (e : Env) (h : H) : Prop :=
  (∀ j, j < 19 ∨ 28 ≤ j → e j = X.E j) ∧ (X.g.length ≤ h.length ∧ ∀ k, k < X.g.length → k ∉ X.B → k ≠ X.b4 → h[k]? = X.g[k]?) ∧ (∀ i ∈ S, i < 9 → X.ph S h i (e (19 + i))) ∧
  (6 ∈ S ∨ S1 h 1 X.v X.L.length (X.L.map .bool) X.B) ∧ TX.apart S e ∧ TX.cl S ∧ (9 ∈ S ∨ h.cells X.b4 = some [X.v]) ∧ (9 ∈ S → h.cells X.b4 = some [e 27])
theorem TX.cl9 {S : List Nat} (h : TX.cl S) (h9 : 9 ∈ S) : ∀ i, i < 9 → i ∈ S := by
  obtain ⟨a, b, c, d, e⟩ := h
  have h8 := e h9
  have h67 := d h8
  have h05 := c h67.1
  have h14 := b h05.2
  have h23 := a h14.2
  intro i hi
  rcases (by omega : i = 0 ∨ i = 1 ∨ i = 2 ∨ i = 3 ∨ i = 4 ∨ i = 5 ∨ i = 6 ∨ i = 7 ∨ i = 8) with rfl | rfl | rfl | rfl | rfl | rfl | rfl | rfl | rfl
  · exact h05.1
  · exact h14.1
  · exact h23.1
  · exact h23.2
  · exact h14.2
  · exact h05.2
  · exact h67.1
  · exact h67.2
  · exact h8
theorem TX.ph_put {X : TX} {S S' : List Nat} {h h' : H} {i : Nat} {x : AV} (hm : ∀ j, j ∈ S → j ∈ S') (hi : i < 9) (hp : X.ph S h i x)
    (hk : ∀ b, X.g.length ≤ b → b < h.length → (i = 1 ∨ i = 5 ∨ i = 7) → h'[b]? = h[b]? ∨ (i = 1 ∧ 5 ∈ S') ∨ (i = 5 ∧ 6 ∈ S') ∨ (i = 7 ∧ 8 ∈ S'))
    (hs : ∀ B n L, S1 h 1 x n L B → (∀ k ∈ B, k ∈ X.B ∨ X.g.length ≤ k) → i = 6 ∨ i = 8 → S1 h' 1 x n L B ∨ (i = 6 ∧ 8 ∈ S')) : X.ph S' h' i x := by
  rcases (by omega : i = 0 ∨ i = 1 ∨ i = 2 ∨ i = 3 ∨ i = 4 ∨ i = 5 ∨ i = 6 ∨ i = 7 ∨ i = 8) with rfl | rfl | rfl | rfl | rfl | rfl | rfl | rfl | rfl
  · exact hp
  · rcases hp with h5 | ⟨b, h1, h2, h3⟩
    · exact .inl (hm _ h5)
    · rcases hk b h3 (cells_lt h2) (.inl rfl) with h7 | ⟨_, h7⟩ | ⟨h7, _⟩ | ⟨h7, _⟩
      · exact .inr ⟨b, h1, cells_keep h7 h2, h3⟩
      · exact .inl h7
      · omega
      · omega
  · exact hp
  · exact hp
  · exact hp
  · rcases hp with h5 | ⟨b, h1, h2, h3⟩
    · exact .inl (hm _ h5)
    · rcases hk b h3 (cells_lt h2) (.inr (.inl rfl)) with h7 | ⟨h7, _⟩ | ⟨_, h7⟩ | ⟨h7, _⟩
      · exact .inr ⟨b, h1, cells_keep h7 h2, h3⟩
      · omega
      · exact .inl h7
      · omega
  · rcases hp with h5 | ⟨B, h1, h2⟩
    · exact .inl (hm _ h5)
    · rcases hs B _ _ h1 h2 (.inl rfl) with h7 | ⟨_, h7⟩
      · exact .inr ⟨B, h7, h2⟩
      · exact .inl h7
  · rcases hp with h5 | ⟨b, h1, h2, h3⟩
    · exact .inl (hm _ h5)
    · rcases hk b h3 (cells_lt h2) (.inr (.inr rfl)) with h7 | ⟨h7, _⟩ | ⟨h7, _⟩ | ⟨_, h7⟩
      · exact .inr ⟨b, h1, cells_keep h7 h2, h3⟩
      · omega
      · omega
      · exact .inl h7
  · obtain ⟨B, h1, h2⟩ := hp
    rcases hs B _ _ h1 h2 (.inr rfl) with h7 | ⟨h7, _⟩
    · exact ⟨B, h7, h2⟩
    · omega
theorem TX.putv {e : Env} {i j : Nat} {x : AV} (h : j ≠ i) : (e.put (some (19 + i)) x) (19 + j) = e (19 + j) := if_neg (by omega)
theorem TX.putl {e : Env} {i j : Nat} {x : AV} (hi : i < 9) (h : j < 19 ∨ 28 ≤ j) : (e.put (some (19 + i)) x) j = e j := if_neg (by omega)
theorem TX.puts {e : Env} {i : Nat} {x : AV} : (e.put (some (19 + i)) x) (19 + i) = x := if_pos rfl
/-- An operation that lays new memory alone. -/
theorem TX.ext {X : TX} (ho : X.ok) {S : List Nat} {e : Env} {h h' : H} {i : Nat} {x : AV} (hs : X.st S e h) (hi : i < 9) (hn : i ∉ S) (h6 : i ≠ 6) (h8 : i ≠ 8) (hd : TX.cl (i :: S)) (hl : h.length ≤ h'.length) (hk : ∀ k, k < h.length → h'[k]? = h[k]?)
    (hx : X.ph (i :: S) h' i x) (hap : i = 7 → 6 ∈ S → ∀ b n b', e 25 = .sl b 0 1 n n → x = .sl b' 0 1 1 1 → b ≠ b') : X.st (i :: S) (e.put (some (19 + i)) x) h' := by
  obtain ⟨a1, ⟨a2, a3⟩, a4, a5, a6, a7, a8, a9⟩ := hs
  have n9 : 9 ∉ S := fun h => hn (TX.cl9 a7 h i hi)
  have hcons : ∀ j, j ∈ S → j ∈ i :: S := fun j hj => List.mem_cons_of_mem _ hj
  have hof : ∀ j, j ≠ i → j ∈ i :: S → j ∈ S := fun j hj hm => (List.mem_cons.1 hm).resolve_left hj
  refine ⟨fun j hj => (TX.putl hi hj).trans (a1 j hj), ⟨by omega, fun k q1 q2 q3 => (hk k (by omega)).trans (a3 k q1 q2 q3)⟩, fun j hj hj9 => ?_, ?_, fun q6 q7 => ?_, hd, .inr ?_, fun q9 => absurd (hof 9 (by omega) q9) n9⟩
  · by_cases hji : j = i
    · subst hji
      rw [TX.puts]
      exact hx
    · rw [TX.putv hji]
      exact TX.ph_put hcons hj9 (a4 j (hof j hji hj) hj9) (fun b _ hb _ => .inl (hk b hb)) fun B n L hS _ _ => .inl (hS.frame fun b hb => hk b (hS.lt b hb))
  · rcases a5 with h5 | h5
    · exact .inl (hcons _ h5)
    · exact .inr (h5.frame fun b hb => hk b (h5.lt b hb))
  · have m6 := hof 6 (Ne.symm h6) q6
    by_cases h7 : i = 7
    · subst h7
      refine .inr fun b n b' e1 e2 => hap rfl m6 b n b' ?_ ?_
      · rw [← e1]
        exact (TX.putv (i := 7) (j := 6) (by omega)).symm
      · rw [← e2]
        exact (TX.puts (i := 7)).symm
    · have m7 := hof 7 (Ne.symm h7) q7
      rcases a6 m6 m7 with h5 | h5
      · exact .inl (hcons _ h5)
      · refine .inr fun b n b' e1 e2 => h5 b n b' ?_ ?_
        · rw [← e1]
          exact (TX.putv (i := i) (j := 6) (Ne.symm h6)).symm
        · rw [← e2]
          exact (TX.putv (i := i) (j := 7) (Ne.symm h7)).symm
  · have h5 := a8.resolve_left n9
    exact cells_keep (hk _ (cells_lt h5)) h5
theorem TX.bb {X : TX} (ho : X.ok) : ∀ b ∈ X.B, b < X.g.length := ho.1.lt
/-- The first append. -/
theorem TX.app1 {X : TX} (ho : X.ok) {S : List Nat} {e : Env} {h h' : H} {x : AV} {B' : List Nat} (hs : X.st S e h) (hn : 6 ∉ S) (m0 : 0 ∈ S) (m5 : 5 ∈ S)
    (hS : S1 h' 1 x (X.L.length + X.c) X.L1 B') (hl : h.length ≤ h'.length) (hk : ∀ b, b < h.length → b ∉ X.B → h'[b]? = h[b]?) (hB : ∀ b ∈ B', b ∈ X.B ∨ h.length ≤ b) : X.st (6 :: S) (e.put (some 25) x) h' := by
  obtain ⟨a1, ⟨a2, a3⟩, a4, a5, a6, a7, a8, a9⟩ := hs
  have n8 : 8 ∉ S := fun h => hn (a7.2.2.2.1 h).1
  have n9 : 9 ∉ S := fun h => n8 (a7.2.2.2.2 h)
  have hcons : ∀ j, j ∈ S → j ∈ 6 :: S := fun j hj => List.mem_cons_of_mem _ hj
  have hof : ∀ j, j ≠ 6 → j ∈ 6 :: S → j ∈ S := fun j hj hm => (List.mem_cons.1 hm).resolve_left hj
  have hB2 : ∀ b ∈ B', b ∈ X.B ∨ X.g.length ≤ b := fun b hb => (hB b hb).imp id fun h5 => by omega
  have hfr : ∀ b, X.g.length ≤ b → b < h.length → h'[b]? = h[b]? := fun b h1 h2 => hk b h2 fun h5 => by have := X.bb ho b h5; omega
  obtain ⟨o1, o2, o3, o4, o5, o6, _⟩ := id ho
  refine ⟨fun j hj => (TX.putl (i := 6) (by omega) hj).trans (a1 j hj), ⟨by omega, fun k q1 q2 q3 => (hk k (by omega) q2).trans (a3 k q1 q2 q3)⟩, fun j hj hj9 => ?_, .inl (by simp), fun q6 q7 => ?_, ⟨fun q => ?_, fun q => ?_, fun q => ⟨hcons _ m0, hcons _ m5⟩, fun q => absurd (hof 8 (by omega) q) n8, fun q => absurd (hof 9 (by omega) q) n9⟩, .inr ?_, fun q9 => absurd (hof 9 (by omega) q9) n9⟩
  · by_cases hji : j = 6
    · subst hji
      rw [show (e.put (some 25) x) (19 + 6) = x from TX.puts (i := 6)]
      exact .inr ⟨B', hS, hB2⟩
    · rw [show (e.put (some 25) x) (19 + j) = e (19 + j) from if_neg (by omega)]
      have hjS := hof j hji hj
      exact TX.ph_put hcons hj9 (a4 j hjS hj9) (fun b h1 h2 _ => .inl (hfr b h1 h2)) fun B n L hS _ h5 => by
        rcases h5 with h5 | h5
        · omega
        · subst h5
          exact absurd hjS n8
  · have m7 := hof 7 (by omega) q7
    refine .inr fun b n b' e1 e2 => ?_
    have e1' : x = .sl b 0 1 n n := by
      rw [← e1]
      exact (show (e.put (some 25) x) 25 = x from TX.puts (i := 6)).symm
    have e2' : e 26 = .sl b' 0 1 1 1 := by
      rw [← e2]
      exact (show (e.put (some 25) x) 26 = e 26 from TX.putv (i := 6) (j := 7) (by omega)).symm
    rcases a4 7 m7 (by omega) with h5 | ⟨b2, r1, r2, r3⟩
    · exact absurd h5 n8
    · have r1' : e 26 = .sl b2 0 1 1 1 := r1
      rw [e2'] at r1'
      injection r1' with r1'
      subst r1'
      have hbl := cells_lt r2
      rcases hS.2 with ⟨h5, _, _⟩ | ⟨b3, h5, h7, _⟩
      · rw [e1'] at h5
        cases h5
      · rw [e1'] at h5
        injection h5 with h5
        subst h5
        rcases hB b (by rw [h7]; simp) with h8 | h8
        · have := X.bb ho b h8
          omega
        · omega
  · have := a7.1 (hof 4 (by omega) q)
    exact ⟨hcons _ this.1, hcons _ this.2⟩
  · have := a7.2.1 (hof 5 (by omega) q)
    exact ⟨hcons _ this.1, hcons _ this.2⟩
  · have h5 := a8.resolve_left n9
    exact cells_keep (hk _ (cells_lt h5) o4) h5
/-- The second append. -/
theorem TX.app2 {X : TX} (ho : X.ok) {S : List Nat} {e : Env} {h h' : H} {x : AV} {B B' : List Nat} (hs : X.st S e h) (hn : 8 ∉ S) (m6 : 6 ∈ S) (m7 : 7 ∈ S) (hB0 : ∀ k ∈ B, k ∈ X.B ∨ X.g.length ≤ k)
    (hS : S1 h' 1 x (X.L.length + X.c + 1) X.L2 B') (hl : h.length ≤ h'.length) (hk : ∀ b, b < h.length → b ∉ B → h'[b]? = h[b]?) (hB : ∀ b ∈ B', b ∈ B ∨ h.length ≤ b) : X.st (8 :: S) (e.put (some 27) x) h' := by
  obtain ⟨a1, ⟨a2, a3⟩, a4, a5, a6, a7, a8, a9⟩ := hs
  have n9 : 9 ∉ S := fun h => hn (a7.2.2.2.2 h)
  have hcons : ∀ j, j ∈ S → j ∈ 8 :: S := fun j hj => List.mem_cons_of_mem _ hj
  have hof : ∀ j, j ≠ 8 → j ∈ 8 :: S → j ∈ S := fun j hj hm => (List.mem_cons.1 hm).resolve_left hj
  have hB2 : ∀ b ∈ B', b ∈ X.B ∨ X.g.length ≤ b := fun b hb => by
    rcases hB b hb with h5 | h5
    · exact hB0 b h5
    · exact .inr (by omega)
  have m05 := a7.2.2.1 m6
  have m14 := a7.2.1 m05.2
  obtain ⟨o1, o2, o3, o4, o5, o6, _⟩ := id ho
  have hnB : ∀ k, k < X.g.length → k ∉ X.B → k ∉ B := fun k h1 h2 h5 => (hB0 k h5).elim h2 fun h7 => by omega
  refine ⟨fun j hj => (TX.putl (i := 8) (by omega) hj).trans (a1 j hj), ⟨by omega, fun k q1 q2 q3 => (hk k (by omega) (hnB k q1 q2)).trans (a3 k q1 q2 q3)⟩, fun j hj hj9 => ?_, .inl (hcons _ m6), fun q6 q7 => .inl (by simp), ⟨fun q => ?_, fun q => ?_, fun q => ?_, fun q => ⟨hcons _ m6, hcons _ m7⟩, fun q => absurd (hof 9 (by omega) q) n9⟩, .inr ?_, fun q9 => absurd (hof 9 (by omega) q9) n9⟩
  · by_cases hji : j = 8
    · subst hji
      rw [show (e.put (some 27) x) (19 + 8) = x from TX.puts (i := 8)]
      exact ⟨B', hS, hB2⟩
    · rw [show (e.put (some 27) x) (19 + j) = e (19 + j) from if_neg (by omega)]
      have hjS := hof j hji hj
      refine TX.ph_put hcons hj9 (a4 j hjS hj9) (fun b h1 h2 h5 => .inr ?_) fun B n L hS _ h5 => .inr ?_
      · rcases h5 with h5 | h5 | h5
        · exact .inl ⟨h5, hcons _ m05.2⟩
        · exact .inr (.inl ⟨h5, hcons _ m6⟩)
        · exact .inr (.inr ⟨h5, by simp⟩)
      · rcases h5 with h5 | h5
        · exact ⟨h5, by simp⟩
        · exact absurd h5 hji
  · have := a7.1 (hof 4 (by omega) q)
    exact ⟨hcons _ this.1, hcons _ this.2⟩
  · have := a7.2.1 (hof 5 (by omega) q)
    exact ⟨hcons _ this.1, hcons _ this.2⟩
  · have := a7.2.2.1 (hof 6 (by omega) q)
    exact ⟨hcons _ this.1, hcons _ this.2⟩
  · have h5 := a8.resolve_left n9
    have h7 := cells_lt h5
    exact cells_keep (hk _ h7 (hnB _ (cells_lt o2) o4)) h5
/-- The store. -/
theorem TX.put9 {X : TX} (ho : X.ok) {S : List Nat} {e : Env} {h : H} (hs : X.st S e h) (hn : 9 ∉ S) (m8 : 8 ∈ S) : X.st (9 :: S) e (wr h X.b4 [e 27]) := by
  obtain ⟨a1, ⟨a2, a3⟩, a4, a5, a6, a7, a8, a9⟩ := hs
  have hcons : ∀ j, j ∈ S → j ∈ 9 :: S := fun j hj => List.mem_cons_of_mem _ hj
  have hof : ∀ j, j ≠ 9 → j ∈ 9 :: S → j ∈ S := fun j hj hm => (List.mem_cons.1 hm).resolve_left hj
  have m67 := a7.2.2.2.1 m8
  have m05 := a7.2.2.1 m67.1
  have m14 := a7.2.1 m05.2
  obtain ⟨o1, o2, o3, o4, o5, o6, _⟩ := id ho
  have b4l := cells_lt o2
  have hw : ∀ k, k ≠ X.b4 → (wr h X.b4 [e 27])[k]? = h[k]? := fun k hk => by
    unfold wr
    rw [List.getElem?_set_ne (Ne.symm hk)]
  have hlw : (wr h X.b4 [e 27]).length = h.length := by simp [wr]
  have hc9 : (wr h X.b4 [e 27]).cells X.b4 = some [e 27] := cells_wr2 (by omega)
  refine ⟨a1, ⟨by omega, fun k q1 q2 q3 => (hw k q3).trans (a3 k q1 q2 q3)⟩, fun j hj hj9 => ?_, .inl (hcons _ m67.1), fun q6 q7 => .inl (hcons _ m8), ⟨fun q => ?_, fun q => ?_, fun q => ?_, fun q => ⟨hcons _ m67.1, hcons _ m67.2⟩, fun q => hcons _ m8⟩, .inl (by simp), fun _ => hc9⟩
  · have hjS := hof j (by omega) hj
    refine TX.ph_put hcons hj9 (a4 j hjS hj9) (fun b h1 h2 h5 => .inr ?_) fun B n L hS hB h5 => ?_
    · rcases h5 with h5 | h5 | h5
      · exact .inl ⟨h5, hcons _ m05.2⟩
      · exact .inr (.inl ⟨h5, hcons _ m67.1⟩)
      · exact .inr (.inr ⟨h5, hcons _ m8⟩)
    · rcases h5 with h5 | h5
      · exact .inr ⟨h5, hcons _ m8⟩
      · exact .inl (hS.frame fun b hb => hw b fun h7 => by
          subst h7
          rcases hB _ hb with h8 | h8
          · exact o4 h8
          · omega)
  · have := a7.1 (hof 4 (by omega) q)
    exact ⟨hcons _ this.1, hcons _ this.2⟩
  · have := a7.2.1 (hof 5 (by omega) q)
    exact ⟨hcons _ this.1, hcons _ this.2⟩
  · have := a7.2.2.1 (hof 6 (by omega) q)
    exact ⟨hcons _ this.1, hcons _ this.2⟩

theorem trie_step {X : TX} {pm : Nat → Prop} (ho : X.ok) (hpm : ∀ k, k ∈ X.B ∨ X.g.length ≤ k ∨ k = X.b4 → pm k) : ∀ i p, o37[i]? = some p → ∀ S e h, i ∉ S → S.length < o37.length → (∀ j ∈ p.2, j ∈ S) → X.st S e h → TOp Tryz.prog (fun b => pm b ∧ b ∉ ([] : List Nat)) e h (fun x h' => X.st (i :: S) (e.put p.1.dst x) h') p.1.op := by
  intro i p hp S e h hn hlen hall hs
  have hi : i < o37.length := (List.getElem?_eq_some_iff.1 hp).1
  have hi10 : i < 10 := hi
  have hpm2 : ∀ k, k ∈ X.B ∨ X.g.length ≤ k ∨ k = X.b4 → pm k ∧ k ∉ ([] : List Nat) := fun k hk => ⟨hpm k hk, List.not_mem_nil⟩
  obtain ⟨o1, o2, o3, o4, o5, o6, o7, o8, o9, o10, o11, o12, o13⟩ := id ho
  obtain ⟨a1, ⟨a2, a3⟩, a4, a5, a6, a7, a8, a9⟩ := id hs
  have e3 : e 3 = .adr X.b3 0 := (a1 3 (by omega)).trans o11
  have e4 : e 4 = .adr X.b4 0 := (a1 4 (by omega)).trans o12
  have e7 : e 7 = .str X.s := (a1 7 (by omega)).trans o13
  have c3 : h.cells X.b3 = some [eS (some X.N)] := cells_keep (a3 _ (cells_lt o3) o5 o6) o3
  have hcc : X.c ≤ 481 := Nat.le_trans (List.length_filter_le _ _) o9
  have n9 : 9 ∉ S := fun h9 => by
    by_cases hi9 : i = 9
    · exact hn (hi9 ▸ h9)
    · exact hn (TX.cl9 a7 h9 i (by omega))
  have c4 := a8.resolve_left n9
  have clk : ∀ i, (i = 4 → 2 ∈ S ∧ 3 ∈ S) → (i = 5 → 1 ∈ S ∧ 4 ∈ S) → i ≠ 6 ∧ i ≠ 8 ∧ i ≠ 9 → TX.cl (i :: S) := fun i h4 h5 hi => by
    have hc : ∀ j, j ∈ S → j ∈ i :: S := fun j hj => List.mem_cons_of_mem _ hj
    have hof : ∀ j, j ≠ i → j ∈ i :: S → j ∈ S := fun j hj hm => (List.mem_cons.1 hm).resolve_left hj
    refine ⟨fun q => ?_, fun q => ?_, fun q => (a7.2.2.1 (hof 6 (by omega) q)).imp (hc _) (hc _), fun q => (a7.2.2.2.1 (hof 8 (by omega) q)).imp (hc _) (hc _), fun q => hc _ (a7.2.2.2.2 (hof 9 (by omega) q))⟩
    · by_cases h : i = 4
      · exact (h4 h).imp (hc _) (hc _)
      · exact (a7.1 (hof 4 (Ne.symm h) q)).imp (hc _) (hc _)
    · by_cases h : i = 5
      · exact (h5 h).imp (hc _) (hc _)
      · exact (a7.2.1 (hof 5 (Ne.symm h) q)).imp (hc _) (hc _)
  rcases (by omega : i = 0 ∨ i = 1 ∨ i = 2 ∨ i = 3 ∨ i = 4 ∨ i = 5 ∨ i = 6 ∨ i = 7 ∨ i = 8 ∨ i = 9) with rfl | rfl | rfl | rfl | rfl | rfl | rfl | rfl | rfl | rfl <;> (injection hp with hp; subst hp)
  · simp only [TOp, ev0, evO, e4, c4]
    exact TX.ext ho hs (by omega) hn (by omega) (by omega) (clk 0 (by omega) (by omega) (by omega)) (Nat.le_refl _) (fun _ _ => rfl) rfl (fun h => by omega)
  · simp only [TOp]
    rw [ev1_bsl]
    show bsA h _ 1 1 (some [AV.bool true])
    rw [bsA_some]
    exact ⟨rfl, TX.ext ho hs (i := 1) (by omega) hn (by omega) (by omega) (clk 1 (by omega) (by omega) (by omega)) (by simp) (fun k hk => List.getElem?_append_left hk) (.inr ⟨h.length, rfl, by rw [cells_h0]; rfl, a2⟩) (fun h => by omega)⟩
  · simp only [TOp, ev0, evO, e3, c3]
    exact TX.ext ho hs (by omega) hn (by omega) (by omega) (clk 2 (by omega) (by omega) (by omega)) (Nat.le_refl _) (fun _ _ => rfl) rfl (fun h => by omega)
  · simp only [TOp, ev0, evO, e7]
    exact TX.ext ho hs (by omega) hn (by omega) (by omega) (clk 3 (by omega) (by omega) (by omega)) (Nat.le_refl _) (fun _ _ => rfl) rfl (fun h => by omega)
  · have m2 : 2 ∈ S := hall 2 (by simp)
    have m3 : 3 ∈ S := hall 3 (by simp)
    have t1 : e 21 = eS (some X.N) := a4 2 m2 (by omega)
    have t2 : e 22 = .str X.s := a4 3 m3 (by omega)
    simp only [TOp, List.map_cons, List.map_nil, evO, t1, t2]
    refine (c_impl_childrenOf (some X.N) X.s (by omega) (fun x hx => by have := o8 x hx; omega)).call ?_
    exact TX.ext ho hs (i := 4) (by omega) hn (by omega) (by omega) (clk 4 (fun _ => ⟨m2, m3⟩) (by omega) (by omega)) (Nat.le_refl _) (fun _ _ => rfl) rfl (fun h => by omega)
  · have m1 : 1 ∈ S := hall 1 (by simp)
    have m4 : 4 ∈ S := hall 4 (by simp)
    have t2 : e 23 = .int .i64 X.c := a4 4 m4 (by omega)
    rcases a4 1 m1 (by omega) with h5 | ⟨b, t1, r2, r3⟩
    · exact absurd h5 hn
    have t1' : e 20 = .sl b 0 1 1 1 := t1
    simp only [TOp, List.map_cons, List.map_nil, evO, t1', t2]
    refine (c_slices_Repeat_bool b X.c h r2 (by omega)).mono (fun x h' hx => ?_) (fun _ _ h => h.elim)
    obtain ⟨bb, rfl, q1, q2, q3, q4⟩ := hx
    exact TX.ext ho hs (i := 5) (by omega) hn (by omega) (by omega) (clk 5 (by omega) (fun _ => ⟨m1, m4⟩) (by omega)) q2 q3 (.inr ⟨bb, rfl, q4, by omega⟩) (fun h => by omega)
  · have m0 : 0 ∈ S := hall 0 (by simp)
    have m5 : 5 ∈ S := hall 5 (by simp)
    have t1 : e 19 = X.v := a4 0 m0 (by omega)
    rcases a4 5 m5 (by omega) with h5 | ⟨b, t2, r2, r3⟩
    · exact absurd h5 hn
    have t2' : e 24 = .sl b 0 1 X.c X.c := t2
    have hsrc : srcCells h false 1 (.sl b 0 1 X.c X.c) = some (List.replicate X.c (.bool true), X.c) := by
      rw [src_sl, r2]
      simp
    simp only [TOp]
    rw [ev1_app]
    simp only [evO, t1, t2', hsrc]
    exact (a5.resolve_left hn).app0 (fun b hb => hpm2 _ (.inl hb)) (by simp) (by omega) fun v' h' B' q1 q2 q3 q4 q5 => TX.app1 ho hs hn m0 m5 q1 q2 q3 q4
  · have n8 : 8 ∉ S := fun h8 => hn (a7.2.2.2.1 h8).2
    simp only [TOp]
    rw [ev1_bsl]
    show bsA h _ 1 1 (some [AV.bool false])
    rw [bsA_some]
    refine ⟨rfl, TX.ext ho hs (i := 7) (by omega) hn (by omega) (by omega) (clk 7 (by omega) (by omega) (by omega)) (by simp) (fun k hk => List.getElem?_append_left hk) (.inr ⟨h.length, rfl, by rw [cells_h0]; rfl, a2⟩) (fun _ m6 b n b' e1 e2 => ?_)⟩
    rcases a4 6 m6 (by omega) with h5 | ⟨B, h5, _⟩
    · exact absurd h5 n8
    injection e2 with e2
    subst e2
    have h5' : S1 h 1 (e 25) (X.L.length + X.c) X.L1 B := h5
    have hlt := h5'.lt
    rcases h5'.2 with ⟨q, _, _⟩ | ⟨b3, q, q2, _⟩
    · rw [e1] at q
      cases q
    · rw [e1] at q
      injection q with q
      subst q
      have := hlt b (by rw [q2]; simp)
      omega
  · have m6 : 6 ∈ S := hall 6 (by simp)
    have m7 : 7 ∈ S := hall 7 (by simp)
    rcases a4 6 m6 (by omega) with h5 | ⟨B, t1, r1⟩
    · exact absurd h5 hn
    rcases a4 7 m7 (by omega) with h5 | ⟨b, t2, r2, r3⟩
    · exact absurd h5 hn
    have t2' : e 26 = .sl b 0 1 1 1 := t2
    have hsrc : srcCells h false 1 (.sl b 0 1 1 1) = some ([.bool false], 1) := by
      rw [src_sl, r2]
      rfl
    have t1' : S1 h 1 (e 25) (X.L.length + X.c) X.L1 B := t1
    simp only [TOp]
    rw [ev1_app]
    simp only [evO, t2', hsrc]
    exact t1'.app0 (fun b hb => hpm2 _ ((r1 b hb).imp id .inl)) rfl (by omega) fun v' h' B' q1 q2 q3 q4 q5 => TX.app2 ho hs hn m6 m7 r1 q1 q2 q3 q4
  · have m8 : 8 ∈ S := hall 8 (by simp)
    obtain ⟨B, t1, _⟩ := a4 8 m8 (by omega)
    have t1' : S1 h 1 (e 27) (X.L.length + X.c + 1) X.L2 B := t1
    simp only [TOp, ev1, evO, e4, c4]
    obtain ⟨w1, w2⟩ := t1'.one_
    rw [w2]
    exact ⟨hpm2 _ (.inr (.inr rfl)), rfl, by simp, by simp [w1], by rw [show over [X.v] 0 [e 27] = [e 27] from over_all rfl]; exact TX.put9 ho hs hn m8⟩
theorem trie_any {X : TX} {pm : Nat → Prop} {Q : Env → H → Prop} (ho : X.ok) (hpm : ∀ k, k ∈ X.B ∨ X.g.length ≤ k ∨ k = X.b4 → pm k)
    (hQ : ∀ e h, (∀ j, j < 19 ∨ 28 ≤ j → e j = X.E j) → X.g.length ≤ h.length → (∀ k, k < X.g.length → k ∉ X.B → k ≠ X.b4 → h[k]? = X.g[k]?) → (∃ v B', h.cells X.b4 = some [v] ∧ S1 h 1 v (X.L.length + X.c + 1) X.L2 B' ∧ ∀ k ∈ B', k ∈ X.B ∨ X.g.length ≤ k) → Q e h) : TD Tryz.prog pm t37 [] Q X.E X.g :=
  treeOf_any k37 (Φ := X.st) (trie_step ho hpm) (fun S e h hl hall hs => by
    obtain ⟨a1, ⟨a2, a3⟩, a4, a5, a6, a7, a8, a9⟩ := hs
    obtain ⟨B', q1, q2⟩ := a4 8 (hall 8 (by decide)) (by omega)
    exact hQ e h a1 a2 a3 ⟨_, B', a9 (hall 9 (by decide)), q1, q2⟩)
    ⟨fun _ _ => rfl, ⟨Nat.le_refl _, fun _ _ _ _ => rfl⟩, fun i hi => by simp at hi, .inr ho.1, fun h => by simp at h, ⟨fun h => by simp at h, fun h => by simp at h, fun h => by simp at h, fun h => by simp at h, fun h => by simp at h⟩, .inr ho.2.1, fun h => by simp at h⟩
/-- What the loop keeps. -/
def LpI (h h' : H) (o : Option (List Str)) (N : List Str) (L : List Bool) (lab : Str) (v4 v6 : AV) : Prop :=
  h.length + 6 ≤ h'.length ∧ H.cells h' h.length = some [eS o] ∧ H.cells h' (h.length + 1) = some [.int .i64 0, .nils, .int .i64 0, .nils, .str []] ∧ H.cells h' (h.length + 4) = some [eS (some N)] ∧ H.cells h' (h.length + 5) = some [v4] ∧
  ∃ B4 B6, S1 h' 1 v4 L.length (L.map .bool) B4 ∧ S1 h' 1 v6 (u8s lab).length (u8s lab) B6 ∧ (∀ k ∈ B4, (k = h.length + 2 ∨ h.length + 6 ≤ k) ∧ k ∉ B6) ∧ ∀ k ∈ B6, k = h.length + 3 ∨ h.length + 6 ≤ k
theorem LpI.shape {h h' : H} {o : Option (List Str)} {N : List Str} {L : List Bool} {lab : Str} {v4 v6 : AV} (hI : LpI h h' o N L lab v4 v6) : ∃ B4, S1 h' 1 v4 L.length (L.map .bool) B4 ∧ (∀ k ∈ B4, h.length ≤ k ∧ k ≠ h.length + 4 ∧ k ≠ h.length + 5) ∧
    ∀ h2 v4' (L' : List Bool) B4', h'.length ≤ h2.length → (∀ k, k < h'.length → k ∉ B4 → k ≠ h.length + 5 → h2[k]? = h'[k]?) → h2.cells (h.length + 5) = some [v4'] → S1 h2 1 v4' L'.length (L'.map .bool) B4' → (∀ k ∈ B4', k ∈ B4 ∨ h'.length ≤ k) → LpI h h2 o N L' lab v4' v6 := by
  obtain ⟨i1, i2, i3, i4, i5, B4, B6, s4, s6, b4, b6⟩ := hI
  refine ⟨B4, s4, fun k hk => ?_, fun h2 v4' L' B4' hl hk hc hS hB => ?_⟩
  · have := (b4 k hk).1
    omega
  · have nb : ∀ k, (k = h.length ∨ k = h.length + 1 ∨ k = h.length + 4 ∨ k ∈ B6) → k ∉ B4 := fun k h5 h7 => by
      have := b4 k h7
      rcases h5 with h5 | h5 | h5 | h5
      · omega
      · omega
      · omega
      · exact this.2 h5
    have b6l := s6.lt
    refine ⟨by omega, cells_keep (hk _ (by omega) (nb _ (.inl rfl)) (by omega)) i2, cells_keep (hk _ (by omega) (nb _ (.inr (.inl rfl))) (by omega)) i3, cells_keep (hk _ (by omega) (nb _ (.inr (.inr (.inl rfl)))) (by omega)) i4, hc, B4', B6, hS, s6.frame fun k h5 => hk k (b6l k h5) (nb k (.inr (.inr (.inr h5)))) (by have := b6 k h5; omega), fun k h5 => ?_, b6⟩
    rcases hB k h5 with h7 | h7
    · exact b4 k h7
    · exact ⟨.inr (by omega), fun h8 => by have := b6l k h8; omega⟩
theorem LpI.app {by_ : Nat} {h h' : H} {o : Option (List Str)} {N : List Str} {L : List Bool} {lab : Str} {v4 v6 : AV} {x : UInt8} {pm : Nat → Prop} {Q : AV → H → Prop} (hI : LpI h h' o N L lab v4 v6) (hpm : ∀ c, h.length ≤ c → pm c) (hl : lab.length ≤ 100000) (hby : by_ ≤ 16)
    (hQ : ∀ v' h'', LpI h h'' o N L (lab ++ [x]) v4 v' → Q v' h'') : apA pm (h' ++ [some (.cells [.int .u8 (x.toNat : Int)])]) Q 1 by_ (some ([.int .u8 (x.toNat : Int)], 1)) v6 := by
  obtain ⟨i1, i2, i3, i4, i5, B4, B6, s4, s6, b4, b6⟩ := hI
  have hul : (u8s lab).length = lab.length := by simp [u8s]
  have hmul : ((u8s lab).length + 1) * by_ ≤ 100001 * 16 := Nat.mul_le_mul (by omega) hby
  have s6' := s6.frame (h' := h' ++ [some (.cells [.int .u8 (x.toNat : Int)])]) fun c hc => List.getElem?_append_left (s6.lt c hc)
  refine s6'.app (fun b hb => hpm b (by have := b6 b hb; omega)) rfl (by decide) (by omega) fun v' h'' B' q1 q2 q3 q4 => hQ v' h'' ?_
  simp only [List.length_append, List.length_cons, List.length_nil] at q2 q3 q4
  have kk : ∀ k, k < h'.length → k ∉ B6 → h''[k]? = h'[k]? := fun k h5 h7 => (q3 k (by omega) h7).trans (List.getElem?_append_left h5)
  have nb : ∀ k, (k = h.length ∨ k = h.length + 1 ∨ k = h.length + 4 ∨ k = h.length + 5 ∨ k ∈ B4) → k ∉ B6 := fun k h5 h7 => by
    have := b6 k h7
    rcases h5 with h5 | h5 | h5 | h5 | h5
    · omega
    · omega
    · omega
    · omega
    · exact (b4 k h5).2 h7
  have b4l := s4.lt
  have e1 : u8s lab ++ [.int .u8 (x.toNat : Int)] = u8s (lab ++ [x]) := by simp [u8s]
  rw [e1] at q1
  have e2 : (u8s lab).length + 1 = (u8s (lab ++ [x])).length := by simp [u8s]
  rw [e2] at q1
  refine ⟨by omega, cells_keep (kk _ (by omega) (nb _ (.inl rfl))) i2, cells_keep (kk _ (by omega) (nb _ (.inr (.inl rfl)))) i3, cells_keep (kk _ (by omega) (nb _ (.inr (.inr (.inl rfl))))) i4, cells_keep (kk _ (by omega) (nb _ (.inr (.inr (.inr (.inl rfl)))))) i5, B4, B', s4.frame fun k h5 => kk k (b4l k h5) (nb k (.inr (.inr (.inr (.inr h5))))), q1, fun k h5 => ⟨(b4 k h5).1, fun h7 => ?_⟩, fun k h5 => ?_⟩
  · rcases q4 k h7 with h8 | h8
    · exact (b4 k h5).2 h8
    · have := b4l k h5
      omega
  · rcases q4 k h5 with h8 | h8
    · exact b6 k h8
    · omega
theorem mkN_cg {f g : Nat → Bool} : ∀ {n : Nat}, (∀ i, i < n → f i = g i) → mkN n f = mkN n g
  | 0, _ => rfl
  | n + 1, h => by
    rw [mkN_succ, mkN_succ, mkN_cg fun i hi => h i (by omega), h n (by omega)]
theorem mdB_mk {l : List Bool} {m : Nat} (hm : ((l.length : Int) + 15) / 16 = (m : Int)) : mdB l = ⟨(l.length : Int), some (wordsN (mkN l.length fun i => l.getD i false) m)⟩ := by
  unfold mdB bitN
  rw [show (l.length + 15) / 16 = m by omega]
theorem c_impl_trie_o (o : Option (List Str)) (hK : okKeys (lS o) = true) : FnO Tryz.prog 37 [eS o] (· = eTr (tK (lS o))) := by
  intro h
  refine enter (by kernel_rfl) e37 (by kernel_rfl) rfl fun hok => ?_
  simp only [r37, initEnv_1]
  have hKl := (okKeys_all hK).2.2
  have htr := nodesK_tri hK
  have hNl := nodesK_cap hKl
  have hN12 := nodesK_len hK
  have hnk := c_impl_nodesFor o hK
  have htk : tK (lS o) = ⟨mdB (shapeL (nodesK (lS o))), mdB (endL (lS o) (nodesK (lS o))), labL (nodesK (lS o))⟩ := rfl
  generalize tK (lS o) = R at htk ⊢
  have hfl := fm_take_le htr
  obtain ⟨N, hN⟩ : ∃ N, N = nodesK (lS o) := ⟨_, rfl⟩
  rw [← hN] at htr hNl hN12 hnk htk hfl
  have hlS : lS (some N) = N := rfl
  have hlSl : (lS (some N)).length = N.length := rfl
  generalize hTL : RCode.seq (.dreg (.fl ⟨some 41, _, _⟩ _)) _ = TL
  (try (simp (disch := first | omega | (simp <;> omega) | fail) only [push_cast, ↓reduceIte, Nat.reduceEqDiff, Nat.reduceAdd, Nat.reduceMul, Nat.reduceSub, Nat.reduceLT, Int.reduceToNat]))
  refine hnk.call ?_
  (try (simp (disch := first | omega | (simp <;> omega) | fail) only [push_cast, ↓reduceIte, Nat.reduceEqDiff, Nat.reduceAdd, Nat.reduceMul, Nat.reduceSub, Nat.reduceLT, Int.reduceToNat, hlS]))
  have hg0 : LpI h (h ++ [some (AObj.cells [eS o]), some (AObj.cells [AV.int IntKind.i64 0, AV.nils, AV.int IntKind.i64 0, AV.nils, AV.str []]), some (AObj.cells []), some (AObj.cells []), some (AObj.cells [eS (some N)]), some (AObj.cells [AV.sl (List.length h + 2) 0 1 0 0])]) o N [] [] (.sl (h.length + 2) 0 1 0 0) (.sl (h.length + 3) 0 1 0 0) :=
    ⟨by simp, by rw [cells_h0]; rfl, by rw [cells_hk]; rfl, by rw [cells_hk]; rfl, by rw [cells_hk]; rfl, [h.length + 2], [h.length + 3], ⟨rfl, .inr ⟨_, rfl, rfl, by rw [cells_hk]; rfl⟩⟩, ⟨rfl, .inr ⟨_, rfl, rfl, by rw [cells_hk]; rfl⟩⟩, fun k hk => by simp at hk; subst hk; exact ⟨.inl rfl, by simp⟩, fun k hk => by simp at hk; exact .inl hk⟩
  refine T_for N.length (fun k e h' => ∃ v4 v6, Pins e [(1, .adr h.length 0), (2, .adr (h.length + 1) 0), (3, .adr (h.length + 4) 0), (4, .adr (h.length + 5) 0), (5, v6), (12, eS (some N)), (13, .int .i64 N.length), (14, .int .i64 k)] ∧ LpI h h' o N ((N.take k).flatMap (shC N)) (((N.take k).drop 1).map (·.getLastD 0)) v4 v6) ?_ ?_
  · refine ⟨_, _, ?_, hg0⟩
    (try (simp (disch := first | omega | (simp <;> omega) | fail) only [push_cast, ↓reduceIte, Nat.reduceEqDiff, Nat.reduceAdd, Nat.reduceMul, Nat.reduceSub, Nat.reduceLT, Int.reduceToNat]))
    all_goals (try simp)
  clear hg0
  rintro k e h' hk ⟨v4, v6, hp, hI⟩
  refine T_pins hp fun e => ?_
  (try (simp (disch := first | omega | (simp <;> omega) | fail) only [push_cast, ↓reduceIte, Nat.reduceEqDiff, Nat.reduceAdd, Nat.reduceMul, Nat.reduceSub, Nat.reduceLT, Int.reduceToNat, hlS]))
  first | refine goC_split (fun hc => ?_) (fun hc => ?_) | refine cnd_split (fun hc => ?_) (fun hc => ?_)
  · (try (simp only [decide_eq_true_eq, decide_eq_false_iff_not, Bool.not_eq_true', Bool.not_eq_false', Bool.and_eq_true, Bool.or_eq_true, Int.not_lt, Int.not_le] at hc)); (try (simp (disch := first | omega | (simp <;> omega) | fail) only [push_cast, ↓reduceIte, Nat.reduceEqDiff, Nat.reduceAdd, Nat.reduceMul, Nat.reduceSub, Nat.reduceLT, Int.reduceToNat]))
    have hk2 : k < N.length := by omega
    obtain ⟨s, hsd⟩ : ∃ s, s = N.getD k [] := ⟨_, rfl⟩
    have hsN : s ∈ N := by rw [hsd]; simp [hk2]
    have hsl := hN12 s hsN
    have hgs : (N.map AV.str)[k]? = some (.str s) := by rw [hsd]; exact get_S hk2
    (try (simp (disch := first | omega | (simp <;> omega) | fail) only [push_cast, ↓reduceIte, Nat.reduceEqDiff, Nat.reduceAdd, Nat.reduceMul, Nat.reduceSub, Nat.reduceLT, Int.reduceToNat, hlS, ← hsd]))
    obtain ⟨B4, s4, b4, hnext⟩ := hI.shape
    obtain ⟨i1, i2, i3, i4, i5, _⟩ := id hI
    have hfk := hfl k
    refine trie_any (X := ⟨h', h.length + 4, h.length + 5, v4, (N.take k).flatMap (shC N), B4, N, s, _⟩) ⟨s4, i5, i4, fun h5 => (b4 _ h5).2.2 rfl, fun h5 => (b4 _ h5).2.1 rfl, by dsimp only; omega, hsl, hN12, hNl, by dsimp only; omega, rfl, rfl, rfl⟩ (fun q hq => ?_) fun e' h2 hE hl2 hf2 hsh => ?_
    · dsimp only at hq
      rcases hq with h5 | h5 | h5
      · exact .inr (b4 q h5).1
      · exact .inr (by omega)
      · exact .inr (by omega)
    obtain ⟨v4', B4', c4, t4, u4⟩ := hsh
    have hfm := take_next_fm (f := shC N) (d := []) hk2
    rw [← hsd] at hfm
    have hL2 : TX.L2 ⟨h', h.length + 4, h.length + 5, v4, (N.take k).flatMap (shC N), B4, N, s, E0⟩ = ((N.take (k + 1)).flatMap (shC N)).map .bool := by
      rw [hfm]
      unfold TX.L2 TX.L1 TX.c shC
      simp
    have hln : ((N.take (k + 1)).flatMap (shC N)).length = ((N.take k).flatMap (shC N)).length + (ch N s).length + 1 := by
      rw [hfm]
      unfold shC
      simp
      omega
    have t4' : S1 h2 1 v4' ((N.take (k + 1)).flatMap (shC N)).length (((N.take (k + 1)).flatMap (shC N)).map .bool) B4' := by
      rw [← hL2, hln]
      exact t4
    have hI2 := hnext h2 v4' _ B4' hl2 hf2 c4 t4' u4
    have hp' : Pins e' [(1, .adr h.length 0), (2, .adr (h.length + 1) 0), (3, .adr (h.length + 4) 0), (4, .adr (h.length + 5) 0), (5, v6), (6, .int .i64 k), (7, .str s), (12, eS (some N)), (13, .int .i64 N.length), (14, .int .i64 k)] :=
      ⟨(hE 1 (by omega)).trans rfl, (hE 2 (by omega)).trans rfl, (hE 3 (by omega)).trans rfl, (hE 4 (by omega)).trans rfl, (hE 5 (by omega)).trans rfl, (hE 6 (by omega)).trans rfl, (hE 7 (by omega)).trans rfl, (hE 12 (by omega)).trans rfl, (hE 13 (by omega)).trans rfl, (hE 14 (by omega)).trans rfl, trivial⟩
    clear hE hf2 hL2 t4 t4' hnext hI
    refine T_pins hp' fun e => ?_
    by_cases k0 : 0 < k
    · have k0' : (0 < (k : Int)) = True := by simp; omega
      have hmd : ((N.take (k + 1)).drop 1).map (·.getLastD 0) = ((N.take k).drop 1).map (·.getLastD 0) ++ [s.getLastD 0] := by
        rw [List.take_add_one, List.drop_append_of_le_length (by rw [List.length_take]; omega), List.map_append, hsd]
        simp [hk2]
      have hsp : 1 ≤ s.length := by
        obtain ⟨R, hR, _, hR3⟩ := htr.head
        have : s ∈ R := by
          rw [hsd, hR]
          rw [List.getD_eq_getElem?_getD, show k = (k - 1) + 1 by omega, List.getElem?_cons_succ]
          have : k - 1 < R.length := by rw [hR] at hk2; simp at hk2; omega
          simp [this]
        exact List.length_pos_iff.2 (hR3 s this)
      have hsx : sidxA (.str s) (.int .i64 ((s.length : Int) - 1)) = some (.int .u8 ((s.getLastD 0).toNat : Int)) := by
        have e1 : ((s.length : Int) - 1).toNat = s.length - 1 := by omega
        rw [← getLast_getD (d := 0), sidxA_str (by omega) (by omega), e1]
      have hll : (((N.take k).drop 1).map (·.getLastD (0 : UInt8))).length ≤ 100000 := by
        rw [List.length_map, List.length_drop, List.length_take]
        omega
      (try (simp (disch := first | omega | (simp <;> omega) | fail) only [push_cast, ↓reduceIte, Nat.reduceEqDiff, Nat.reduceAdd, Nat.reduceMul, Nat.reduceSub, Nat.reduceLT, Int.reduceToNat, k0', hsx]))
      refine hI2.app (by_ := 1) (fun c hc => Or.inr (by omega)) hll (by decide) fun v' h'' q1 => ?_
      rw [← hmd] at q1
      (try (simp (disch := first | omega | (simp <;> omega) | fail) only [push_cast, ↓reduceIte, Nat.reduceEqDiff, Nat.reduceAdd, Nat.reduceMul, Nat.reduceSub, Nat.reduceLT, Int.reduceToNat]))
      all_goals (try exact ⟨_, _, rfl, q1⟩)
    · have k00 : k = 0 := by omega
      have k0' : (0 < (k : Int)) = False := by simp; omega
      have e1 : ((N.take (k + 1)).drop 1).map (·.getLastD (0 : UInt8)) = ((N.take k).drop 1).map (·.getLastD 0) := by rw [k00]; simp
      rw [← e1] at hI2
      (try (simp (disch := first | omega | (simp <;> omega) | fail) only [push_cast, ↓reduceIte, Nat.reduceEqDiff, Nat.reduceAdd, Nat.reduceMul, Nat.reduceSub, Nat.reduceLT, Int.reduceToNat, k0']))
      all_goals (try exact ⟨_, _, rfl, hI2⟩)
  · (try (simp only [decide_eq_true_eq, decide_eq_false_iff_not, Bool.not_eq_true', Bool.not_eq_false', Bool.and_eq_true, Bool.or_eq_true, Int.not_lt, Int.not_le] at hc)); (try (simp (disch := first | omega | (simp <;> omega) | fail) only [push_cast, ↓reduceIte, Nat.reduceEqDiff, Nat.reduceAdd, Nat.reduceMul, Nat.reduceSub, Nat.reduceLT, Int.reduceToNat]))
    have hke : k = N.length := by omega
    subst hke
    rw [List.take_length] at hI
    have hsh : N.flatMap (shC N) = shapeL N := rfl
    have hlb : (N.drop 1).map (·.getLastD (0 : UInt8)) = labL N := rfl
    rw [hsh, hlb] at hI
    obtain ⟨i1, i2, i3, i4, i5, B4, B6, s4, s6, b4, b6⟩ := hI
    have hshl : (shapeL N).length + 1 = 2 * N.length := htr.shape
    have hshp : 0 < (shapeL N).length := by
      have : 0 < N.length := by
        obtain ⟨R, hR, _⟩ := htr.head
        rw [hR]
        simp
      omega
    have hcb : ∀ g : H, (∀ k, k < h'.length → g[k]? = h'[k]?) → cbsA g v6 = some (.str (labL N)) := fun g hg => cbs_S1 (s6.frame fun k hk => hg k (s6.lt k hk))
    have hcb0 := hcb h' fun _ _ => rfl
    have hv6 : v6 = .nils ∨ ∃ b, v6 = .sl b 0 1 (u8s (labL N)).length (u8s (labL N)).length ∧ (b = h.length + 3 ∨ h.length + 6 ≤ b) ∧ b < h'.length := by
      rcases s6.2 with ⟨rfl, _, _⟩ | ⟨b, hv, hb, hc⟩
      · exact .inl rfl
      · exact .inr ⟨b, hv, b6 b (by rw [hb]; simp), cells_lt hc⟩
    obtain ⟨bs, hv4, hbs, hcs⟩ : ∃ b, v4 = .sl b 0 1 (shapeL N).length (shapeL N).length ∧ B4 = [b] ∧ h'.cells b = some ((shapeL N).map .bool) := by
      rcases s4.2 with ⟨_, h5, _⟩ | h5
      · omega
      · exact h5
    subst hv4
    obtain ⟨m1, hm1⟩ : ∃ m : Nat, ((((shapeL N).length : Nat) : Int) + 15) / 16 = (m : Int) := ⟨((shapeL N).length + 15) / 16, by omega⟩
    obtain ⟨m2, hm2⟩ : ∃ m : Nat, ((N.length : Int) + 15) / 16 = (m : Int) := ⟨(N.length + 15) / 16, by omega⟩
    have hA := c_impl_madeBits_g (shapeL N).length m1 85 [.adr (h.length + 5) 0] [.rad [eO (some (shapeL N))] 0] (fun i => (shapeL N).getD i false) (by omega) hm1 (fun i hi => c_impl_trie1 (shapeL N) i hi) h' fun g hgl hg => .cons (.adr (Nat.zero_le _) (cells_keep (hg _ (cells_lt i5)) i5) rfl fun i y t hy ht => by
      rcases i with _ | i
      · simp at hy ht
        subst hy ht
        exact vw_all (Nat.zero_le _) (cells_keep (hg _ (cells_lt hcs)) hcs) (by simp) (one_map fun _ => rfl) (free_map_ fun _ => free_bool)
      · simp at hy) .nil
    have hB := fun (g : H) (hgl : h'.length ≤ g.length) (hg : ∀ k, k < h'.length → g[k]? = h'[k]?) => c_impl_madeBits_g N.length m2 86 [.adr h.length 0, .adr (h.length + 4) 0] [.rad [eS o] 0, .rad [eS (some N)] 0] (fun i => decide (N.getD i [] ∈ lS o)) (by omega) hm2 (fun i hi => c_impl_trie2 o N i hi) g fun g2 hgl2 hg2 => .adr (cells_keep ((hg2 _ (by omega)).trans (hg _ (by omega))) i2) (fun c hc => by simp at hc; subst hc; exact free_eS) (.adr (cells_keep ((hg2 _ (by omega)).trans (hg _ (by omega))) i4) (fun c hc => by simp at hc; subst hc; exact free_eS) .nil)
    have hsz1 := mdB_mk hm1
    have hel : (endL (lS o) N).length = N.length := by simp [endL]
    have hsz2 : mdB (endL (lS o) N) = ⟨(N.length : Int), some (wordsN (mkN N.length fun i => decide (N.getD i [] ∈ lS o)) m2)⟩ := by
      rw [mdB_mk (m := m2) (by rw [hel]; exact hm2), hel]
      congr 3
      refine mkN_cg fun i hi => ?_
      simp [endL, hi]
    rw [hsz1, hsz2] at htk
    rw [← hTL]
    clear hTL
    have ew : ∀ (X m : Nat), eI (some (wordsN X m)) = .ro 1 ((wordsN X m).map (AV.int .i64)) m := fun X m => by
      show AV.ro 1 _ (wordsN X m).length = _
      rw [wordsN_len]
    have hfin : ∀ (g2 : H) (bb1 bb2 : Nat), h.length + 6 ≤ bb1 → bb1 < bb2 → g2.cells bb1 = some ((wordsN (mkN (shapeL N).length fun i => (shapeL N).getD i false) m1).map (.int .i64)) → g2.cells bb2 = some ((wordsN (mkN N.length fun i => decide (N.getD i [] ∈ lS o)) m2).map (.int .i64)) →
        ∀ cs, ∃ t, Ow (wr g2 (h.length + 1) cs) [.agg [.int .i64 ((shapeL N).length : Nat), .sl bb1 0 1 m1 m1, .int .i64 (N.length : Nat), .sl bb2 0 1 m2 m2, .str (labL N)]] [t] (fun c => h.length ≤ c) ∧ t = eTr R := fun g2 bb1 bb2 z1 z2 z3 z4 cs => by
      have hwr : ∀ c, c ≠ h.length + 1 → (wr g2 (h.length + 1) cs)[c]? = g2[c]? := fun c hc => by
        unfold wr
        rw [List.getElem?_set_ne (Ne.symm hc)]
      have w1 : Ow (wr g2 (h.length + 1) cs) [.sl bb1 0 1 m1 m1] [eI (some (wordsN (mkN (shapeL N).length fun i => (shapeL N).getD i false) m1))] (fun c => c = bb1) := by
        rw [ew]
        exact ow_map (f := AV.int .i64) (fun _ => rfl) (cells_keep (hwr _ (by omega)) z3) wordsN_len rfl
      have w2 : Ow (wr g2 (h.length + 1) cs) [.sl bb2 0 1 m2 m2] [eI (some (wordsN (mkN N.length fun i => decide (N.getD i [] ∈ lS o)) m2))] (fun c => c = bb2) := by
        rw [ew]
        exact ow_map (f := AV.int .i64) (fun _ => rfl) (cells_keep (hwr _ (by omega)) z4) wordsN_len rfl
      exact ⟨_, ow_tr (n0 := h.length) w1 w2 (fun c hc => by omega) (fun c hc => ⟨by omega, fun h5 => by omega⟩), by rw [htk]⟩
    have hpm1 : (h.length ≤ h.length + 1) = True := by simp
    have hlT : lS (some N) = N := rfl
    rcases hv6 with rfl | ⟨b6', rfl, hb6', hb6l⟩
    · (try (simp (disch := first | omega | (simp <;> omega) | fail) only [push_cast, ↓reduceIte, Nat.reduceEqDiff, Nat.reduceAdd, Nat.reduceMul, Nat.reduceSub, Nat.reduceLT, Int.reduceToNat, hcb0, i5, i4, reads, List.mem_cons, List.mem_append, List.not_mem_nil, nat_ff, or_self, or_false, false_or, not_false_eq_true]))
      refine ⟨⟨?_, ?_⟩, ?_⟩
      all_goals
        refine hA.mono (fun x g1 hx => ?_) (fun _ _ h => h.elim)
        obtain ⟨bb1, rfl, p1, p2, p3, p4⟩ := hx
        have i4' : g1.cells (h.length + 4) = some [eS (some N)] := cells_keep (p3 _ (by omega)) i4
        (try (simp (disch := first | omega | (simp <;> omega) | fail) only [push_cast, ↓reduceIte, Nat.reduceEqDiff, Nat.reduceAdd, Nat.reduceMul, Nat.reduceSub, Nat.reduceLT, Int.reduceToNat, i4', hlT, reads, List.mem_cons, List.mem_append, List.not_mem_nil, nat_ff, or_self, or_false, false_or, not_false_eq_true]))
        refine (hB g1 p2 p3).mono (fun x g2 hx => ?_) (fun _ _ h => h.elim)
        obtain ⟨bb2, rfl, q1, q2, q3, q4⟩ := hx
        have bl1 := cells_lt p4
        have i3' : g2.cells (h.length + 1) = some [.int .i64 0, .nils, .int .i64 0, .nils, .str []] := cells_keep ((q3 _ (by omega)).trans (p3 _ (by omega))) i3
        have hf := hfin g2 bb1 bb2 (by omega) (by omega) (cells_keep (q3 _ bl1) p4) q4
        have hw1 : ∀ cs, H.cells (wr g2 (h.length + 1) cs) (h.length + 1) = some cs := fun cs => cells_wr2 (cells_lt i3')
        (try (simp (disch := first | omega | (simp <;> omega) | fail) only [push_cast, ↓reduceIte, Nat.reduceEqDiff, Nat.reduceAdd, Nat.reduceMul, Nat.reduceSub, Nat.reduceLT, Int.reduceToNat, i3', hpm1, hw1, reads, List.mem_cons, List.mem_append, List.not_mem_nil, nat_ff, or_self, or_false, false_or, not_false_eq_true]))
        exact hf _
    · have hne : ¬ h.length + 1 = b6' := by omega
      (try (simp (disch := first | omega | (simp <;> omega) | fail) only [push_cast, ↓reduceIte, Nat.reduceEqDiff, Nat.reduceAdd, Nat.reduceMul, Nat.reduceSub, Nat.reduceLT, Int.reduceToNat, hcb0, i5, i4, reads, List.mem_cons, List.mem_append, List.not_mem_nil, nat_ff, or_self, or_false, false_or, not_false_eq_true]))
      refine ⟨⟨?_, ?_⟩, ?_⟩
      all_goals
        refine hA.mono (fun x g1 hx => ?_) (fun _ _ h => h.elim)
        obtain ⟨bb1, rfl, p1, p2, p3, p4⟩ := hx
        have i4' : g1.cells (h.length + 4) = some [eS (some N)] := cells_keep (p3 _ (by omega)) i4
        (try (simp (disch := first | omega | (simp <;> omega) | fail) only [push_cast, ↓reduceIte, Nat.reduceEqDiff, Nat.reduceAdd, Nat.reduceMul, Nat.reduceSub, Nat.reduceLT, Int.reduceToNat, i4', hlT, reads, List.mem_cons, List.mem_append, List.not_mem_nil, nat_ff, or_self, or_false, false_or, not_false_eq_true]))
        refine (hB g1 p2 p3).mono (fun x g2 hx => ?_) (fun _ _ h => h.elim)
        obtain ⟨bb2, rfl, q1, q2, q3, q4⟩ := hx
        have bl1 := cells_lt p4
        have i3' : g2.cells (h.length + 1) = some [.int .i64 0, .nils, .int .i64 0, .nils, .str []] := cells_keep ((q3 _ (by omega)).trans (p3 _ (by omega))) i3
        have hf := hfin g2 bb1 bb2 (by omega) (by omega) (cells_keep (q3 _ bl1) p4) q4
        have hw1 : ∀ cs, H.cells (wr g2 (h.length + 1) cs) (h.length + 1) = some cs := fun cs => cells_wr2 (cells_lt i3')
        (try (simp (disch := first | omega | (simp <;> omega) | fail) only [push_cast, ↓reduceIte, Nat.reduceEqDiff, Nat.reduceAdd, Nat.reduceMul, Nat.reduceSub, Nat.reduceLT, Int.reduceToNat, i3', hpm1, hw1, hne, reads, List.mem_cons, List.mem_append, List.not_mem_nil, nat_ff, or_self, or_false, false_or, not_false_eq_true]))
        exact hf _

theorem c_slices_Equal_int (a b : Option (List Int)) : Fn Tryz.prog 94 [eI a, eI b] (· = .bool (decide (lI a = lI b))) := by
  refine Fn.of free_bool fun h => ?_
  refine enter (by kernel_rfl) e94 (by kernel_rfl) rfl fun hok => ?_
  simp only [r94, initEnv_2]
  have ha := ok_eI (okV_0 hok)
  have hb := ok_eI (okV_1 hok)
  (try (simp (disch := first | omega | (simp <;> omega) | fail) only [push_cast, ↓reduceIte, Nat.reduceEqDiff, Nat.reduceAdd, Nat.reduceMul, Nat.reduceSub, Nat.reduceLT, Int.reduceToNat]))
  first | refine goC_split (fun hc => ?_) (fun hc => ?_) | refine cnd_split (fun hc => ?_) (fun hc => ?_)
  · (try (simp only [decide_eq_true_eq, decide_eq_false_iff_not, Bool.not_eq_true', Bool.not_eq_false', Bool.and_eq_true, Bool.or_eq_true, Int.not_lt, Int.not_le] at hc)); (try (simp (disch := first | omega | (simp <;> omega) | fail) only [push_cast, ↓reduceIte, Nat.reduceEqDiff, Nat.reduceAdd, Nat.reduceMul, Nat.reduceSub, Nat.reduceLT, Int.reduceToNat]))
    symm
    rw [decide_eq_false_iff_not]
    intro he
    rw [he] at hc
    exact hc rfl
  have hlen : (lI a).length = (lI b).length := by (try (simp only [decide_eq_true_eq, decide_eq_false_iff_not, Bool.not_eq_true', Bool.not_eq_false', Bool.and_eq_true, Bool.or_eq_true, Int.not_lt, Int.not_le] at hc)); (try (simp (disch := first | omega | (simp <;> omega) | fail) only [push_cast, ↓reduceIte, Nat.reduceEqDiff, Nat.reduceAdd, Nat.reduceMul, Nat.reduceSub, Nat.reduceLT, Int.reduceToNat])); omega
  (try (simp (disch := first | omega | (simp <;> omega) | fail) only [push_cast, ↓reduceIte, Nat.reduceEqDiff, Nat.reduceAdd, Nat.reduceMul, Nat.reduceSub, Nat.reduceLT, Int.reduceToNat]))
  refine T_for (lI a).length (fun i e h' => Pins e [(0, eI a), (1, eI b), (11, eI a), (12, .int .i64 (lI a).length), (13, .int .i64 i)] ∧ h' = h ∧ (lI a).take i = (lI b).take i) ?_ ?_
  · (try (simp (disch := first | omega | (simp <;> omega) | fail) only [push_cast, ↓reduceIte, Nat.reduceEqDiff, Nat.reduceAdd, Nat.reduceMul, Nat.reduceSub, Nat.reduceLT, Int.reduceToNat]))
    simp
  rintro i e h' hi ⟨hp, rfl, he⟩
  refine T_pins hp fun e => ?_
  (try (simp (disch := first | omega | (simp <;> omega) | fail) only [push_cast, ↓reduceIte, Nat.reduceEqDiff, Nat.reduceAdd, Nat.reduceMul, Nat.reduceSub, Nat.reduceLT, Int.reduceToNat]))
  first | refine goC_split (fun hc => ?_) (fun hc => ?_) | refine cnd_split (fun hc => ?_) (fun hc => ?_)
  · (try (simp only [decide_eq_true_eq, decide_eq_false_iff_not, Bool.not_eq_true', Bool.not_eq_false', Bool.and_eq_true, Bool.or_eq_true, Int.not_lt, Int.not_le] at hc)); (try (simp (disch := first | omega | (simp <;> omega) | fail) only [push_cast, ↓reduceIte, Nat.reduceEqDiff, Nat.reduceAdd, Nat.reduceMul, Nat.reduceSub, Nat.reduceLT, Int.reduceToNat]))
    have hi : i < (lI a).length := by omega
    (try (simp (disch := first | omega | (simp <;> omega) | fail) only [push_cast, ↓reduceIte, Nat.reduceEqDiff, Nat.reduceAdd, Nat.reduceMul, Nat.reduceSub, Nat.reduceLT, Int.reduceToNat]))
    first | refine goC_split (fun hc => ?_) (fun hc => ?_) | refine cnd_split (fun hc => ?_) (fun hc => ?_)
    · (try (simp only [decide_eq_true_eq, decide_eq_false_iff_not, Bool.not_eq_true', Bool.not_eq_false', Bool.and_eq_true, Bool.or_eq_true, Int.not_lt, Int.not_le] at hc)); (try (simp (disch := first | omega | (simp <;> omega) | fail) only [push_cast, ↓reduceIte, Nat.reduceEqDiff, Nat.reduceAdd, Nat.reduceMul, Nat.reduceSub, Nat.reduceLT, Int.reduceToNat]))
      symm
      rw [decide_eq_false_iff_not]
      intro he
      rw [he] at hc
      exact hc rfl
    · (try (simp only [decide_eq_true_eq, decide_eq_false_iff_not, Bool.not_eq_true', Bool.not_eq_false', Bool.and_eq_true, Bool.or_eq_true, Int.not_lt, Int.not_le] at hc)); (try (simp (disch := first | omega | (simp <;> omega) | fail) only [push_cast, ↓reduceIte, Nat.reduceEqDiff, Nat.reduceAdd, Nat.reduceMul, Nat.reduceSub, Nat.reduceLT, Int.reduceToNat]))
      have h1 : i < (lI b).length := by omega
      simp [hi, h1] at hc
      rw [List.take_add_one, List.take_add_one, he]
      simp [hi, h1, hc]
  · (try (simp only [decide_eq_true_eq, decide_eq_false_iff_not, Bool.not_eq_true', Bool.not_eq_false', Bool.and_eq_true, Bool.or_eq_true, Int.not_lt, Int.not_le] at hc)); (try (simp (disch := first | omega | (simp <;> omega) | fail) only [push_cast, ↓reduceIte, Nat.reduceEqDiff, Nat.reduceAdd, Nat.reduceMul, Nat.reduceSub, Nat.reduceLT, Int.reduceToNat]))
    have hi2 : i = (lI a).length := by omega
    symm
    rw [decide_eq_true_iff]
    rw [hi2, List.take_length] at he
    rw [he, hlen, List.take_length]

theorem c_impl_sameBits (a b : Bt) : Fn Tryz.prog 140 [eB a, eB b] (· = .bool (sameB a b)) := by
  refine Fn.of free_bool fun h => ?_
  refine enter (by kernel_rfl) e140 (by kernel_rfl) rfl fun hok => ?_
  simp only [r140, initEnv_2]
  unfold sameB
  cases hs : decide (a.size = b.size)
  · (try (simp (disch := first | omega | (simp <;> omega) | fail) only [push_cast, ↓reduceIte, Nat.reduceEqDiff, Nat.reduceAdd, Nat.reduceMul, Nat.reduceSub, Nat.reduceLT, Int.reduceToNat, hs]))
  (try (simp (disch := first | omega | (simp <;> omega) | fail) only [push_cast, ↓reduceIte, Nat.reduceEqDiff, Nat.reduceAdd, Nat.reduceMul, Nat.reduceSub, Nat.reduceLT, Int.reduceToNat, hs]))
  refine (c_slices_Equal_int a.words b.words).call ?_
  (try (simp (disch := first | omega | (simp <;> omega) | fail) only [push_cast, ↓reduceIte, Nat.reduceEqDiff, Nat.reduceAdd, Nat.reduceMul, Nat.reduceSub, Nat.reduceLT, Int.reduceToNat, hs]))

def noV (t : Tr) : AV := match trV t with
  | some K => eS (some (nodesK K))
  | none => .nils
theorem free_radT {cs : List AV} {off : Nat} (hc : ∀ c ∈ cs, Free c) : Free (.rad cs off) := fun S w μ μ' v h => by
  cases h with
  | rad h1 h2 h3 => exact .rad h1 h2 (fun i x hx => hc x (List.mem_of_getElem? hx) _ _ _ _ _ (h3 i x hx))
theorem ow_atoms_eqT {h : H} : ∀ {ts cs : List AV} {G : Nat → Prop}, Ow h cs ts G → (∀ t ∈ ts, M.atom t = true) → cs = ts
  | [], cs, G, ho, _ => List.length_eq_zero_iff.1 ho.len.symm
  | t :: ts, [], G, ho, _ => absurd ho.len (by simp)
  | t :: ts, c :: cs, G, ho, ha => by
    obtain ⟨F, F', f1, f2, _, _⟩ := ho.uncons
    rw [f1.atomOf (ha t (by simp)), ow_atoms_eqT f2 fun u hu => ha u (by simp [hu])]
theorem ow_strs {h : H} {x : AV} {N : List Str} {G : Nat → Prop} (ho : Ow h [x] [eS (some N)] G) : ∃ b, x = .sl b 0 1 N.length N.length ∧ G b ∧ h.cells b = some (N.map .str) := by
  obtain ⟨b, cs, F, rfl, hc, hl, hb, hF, hin, _⟩ := Ow.open_ (show Ow h [x] [.ro 1 _ _] G from ho)
  exact ⟨b, rfl, hb, by rw [hc, ow_atoms_eqT hin (by simp [M.atom])]⟩
theorem ow_strs_of {h : H} {b : Nat} {N : List Str} {G : Nat → Prop} (hc : h.cells b = some (N.map .str)) (hb : G b) : Ow h [.sl b 0 1 N.length N.length] [eS (some N)] G := ow_map (f := AV.str) (fun _ => rfl) hc rfl hb
theorem noV_no {t : Tr} (h : trV t = none) : noV t = .nils := by
  unfold noV
  rw [h]
theorem noV_some {t : Tr} {K : List Str} (h : trV t = some K) : noV t = eS (some (nodesK K)) := by
  unfold noV
  rw [h]

theorem c_impl_Trie_nodes_o (t : Tr) : FnO Tryz.prog 91 [.rad (cTr t) 0] (· = noV t) := by
  intro h
  refine enter (by kernel_rfl) e91 (by kernel_rfl) rfl fun hok => ?_
  simp only [r91, initEnv_1]
  have hEnd := c_impl_Trie_ends_o t
  have hno : trV t = none → ∀ {hh : H}, ∃ t', Ow hh [.nils] [t'] (fun c => h.length ≤ c) ∧ t' = noV t := fun h5 hh => by
    rw [noV_no h5]
    exact ⟨.nils, .atom rfl .nil, rfl⟩
  have hbad := @trV_bad t
  have hdno := @trV_none t
  have hsort := @trV_sort t
  have hyes := fun K => @noV_some t K
  have hdecd := fun K (h5 : trV t = some K) => (trV_some h5).dec true
  have hgl := @btL_get t.sh
  have hbl := btL_len (b := t.sh)
  have hat : ∀ i, atB t.sh i = (numW (lI t.sh.words)).testBit i := fun _ => rfl
  have hok0 : okT0 t = ((okBt t.sh && okBt t.en) && (decide (t.sh.size = 2 * t.en.size - 1) && decide ((t.lab.length : Int) = t.en.size - 1))) := rfl
  obtain ⟨⟨ss, sw⟩, ⟨es, ew⟩, lab⟩ := t
  simp only at hgl hbl hat hok0 hdno hEnd
  (try (simp (disch := first | omega | (simp <;> omega) | fail) only [push_cast, ↓reduceIte, Nat.reduceEqDiff, Nat.reduceAdd, Nat.reduceMul, Nat.reduceSub, Nat.reduceLT, Int.reduceToNat]))
  refine (c_impl_IsBits ⟨ss, sw⟩).call ?_
  cases h1 : okBt ⟨ss, sw⟩
  · have hn := @hno (hbad (by rw [hok0, h1]; rfl))
    (try (simp (disch := first | omega | (simp <;> omega) | fail) only [push_cast, ↓reduceIte, Nat.reduceEqDiff, Nat.reduceAdd, Nat.reduceMul, Nat.reduceSub, Nat.reduceLT, Int.reduceToNat]))
    all_goals (try exact hn)
  (try (simp (disch := first | omega | (simp <;> omega) | fail) only [push_cast, ↓reduceIte, Nat.reduceEqDiff, Nat.reduceAdd, Nat.reduceMul, Nat.reduceSub, Nat.reduceLT, Int.reduceToNat]))
  refine (c_impl_IsBits ⟨es, ew⟩).call ?_
  cases h2 : okBt ⟨es, ew⟩
  · have hn := @hno (hbad (by rw [hok0, h2]; simp))
    (try (simp (disch := first | omega | (simp <;> omega) | fail) only [push_cast, ↓reduceIte, Nat.reduceEqDiff, Nat.reduceAdd, Nat.reduceMul, Nat.reduceSub, Nat.reduceLT, Int.reduceToNat]))
    all_goals (try exact hn)
  rw [h1, h2] at hok0
  obtain ⟨w1, w2, w3, w4⟩ := okBt_num h1
  obtain ⟨_, e2, e3, _⟩ := okBt_num h2
  simp only at w1 w2 w3 w4 e2 e3
  by_cases z1 : ss = 2 * es - 1
  · by_cases z2 : (lab.length : Int) = es - 1
    · have z1' : (ss = 2 * es - 1) = True := by simp [z1]
      have z2' : ((lab.length : Int) = es - 1) = True := by simp [z2]
      rw [decide_eq_true z1, decide_eq_true z2] at hok0
      (try (simp (disch := first | omega | (simp <;> omega) | fail) only [push_cast, ↓reduceIte, Nat.reduceEqDiff, Nat.reduceAdd, Nat.reduceMul, Nat.reduceSub, Nat.reduceLT, Int.reduceToNat, z1', z2']))
      clear hbad
      generalize hBits : btL ⟨ss, sw⟩ = bits at *
      have hsi : (ss : Int) = (bits.length : Int) := by omega
      refine T_for bits.length (fun i e h' => ∃ (v : AV) (a : Nat) (L : List Str), Pins e [(0, .rad [.int .i64 ss, eI sw, .int .i64 es, eI ew, .str lab] 0), (3, v), (4, .int .i64 a), (56, .int .i64 ss), (57, .int .i64 i)] ∧ GsI AV.str h.length h' v L ∧ ((bits.take i).foldl (stp true lab) (some ([[]], 0)) = some (L, a) ∧ a ≤ L.length ∧ (1 ≤ L.length ∧ L.length ≤ i + 1 ∧ L.length ≤ lab.length + 1) ∧ ∀ x ∈ L, x.length ≤ 12)) ?_ ?_
      · refine ⟨.sl h.length 0 1 1 1, 0, [[]], ?_⟩
        have hg := GsI.single (f := AV.str) (n0 := h.length) (h' := h) (x := []) (Nat.le_refl _)
        (try (simp (disch := first | omega | (simp <;> omega) | fail) only [push_cast, ↓reduceIte, Nat.reduceEqDiff, Nat.reduceAdd, Nat.reduceMul, Nat.reduceSub, Nat.reduceLT, Int.reduceToNat]))
        all_goals (try exact ⟨hg, by simp⟩)
      rintro i e h' hi ⟨v, a, L, hp, hs, hf, haL, ⟨hL1, hL2, hL3⟩, hx⟩
      refine T_pins hp fun e => ?_
      have hlen := hs.len
      obtain ⟨b, hv, hbb, hcb⟩ := hs.at_ (fun h5 => by rw [h5] at hL1; simp at hL1)
      (try (simp (disch := first | omega | (simp <;> omega) | fail) only [push_cast, ↓reduceIte, Nat.reduceEqDiff, Nat.reduceAdd, Nat.reduceMul, Nat.reduceSub, Nat.reduceLT, Int.reduceToNat]))
      by_cases hib : i < bits.length
      · have hlt : ((i : Int) < ss) = True := by simp; omega
        have hnx := foldl_take (f := stp true lab) (b := some ([[]], 0)) (d := false) hib
        rw [hf, hgl (by omega)] at hnx
        have hbad2 : (bits.take (i + 1)).foldl (stp true lab) (some ([[]], 0)) = none → ∀ {hh : H}, ∃ t', Ow hh [.nils] [t'] (fun c => h.length ≤ c) ∧ t' = noV ⟨⟨ss, sw⟩, ⟨es, ew⟩, lab⟩ := fun h5 => hno (hdno (dec_none _ h5))
        by_cases c1 : L.length ≤ a
        · have hl := @hbad2 (by rw [hnx]; simp only [stp]; rw [if_pos c1])
          have c1' : ((L.length : Int) ≤ (a : Int)) = True := by simp; omega
          (try (simp (disch := first | omega | (simp <;> omega) | fail) only [push_cast, ↓reduceIte, Nat.reduceEqDiff, Nat.reduceAdd, Nat.reduceMul, Nat.reduceSub, Nat.reduceLT, Int.reduceToNat, hlt, hlen, c1']))
          all_goals (try exact hl)
        have c1' : ((L.length : Int) ≤ (a : Int)) = False := by simp; omega
        (try (simp (disch := first | omega | (simp <;> omega) | fail) only [push_cast, ↓reduceIte, Nat.reduceEqDiff, Nat.reduceAdd, Nat.reduceMul, Nat.reduceSub, Nat.reduceLT, Int.reduceToNat, hlt, hlen, c1']))
        refine (c_impl_Bits_at sw (numW (lI sw)) (lI sw).length i [.int .i64 ss, eI sw, .int .i64 es, eI ew, .str lab] 0 rfl w1 (by omega) (by omega)).call ?_
        rw [← hat i]
        cases hb : atB ⟨ss, sw⟩ i
        · rw [hb] at hnx
          have hnx2 : (bits.take (i + 1)).foldl (stp true lab) (some ([[]], 0)) = some (L, a + 1) := by
            rw [hnx]
            simp only [stp]
            rw [if_neg (by omega)]
            rfl
          (try (simp (disch := first | omega | (simp <;> omega) | fail) only [push_cast, ↓reduceIte, Nat.reduceEqDiff, Nat.reduceAdd, Nat.reduceMul, Nat.reduceSub, Nat.reduceLT, Int.reduceToNat]))
          all_goals (try exact ⟨v, a + 1, L, ⟨rfl, rfl⟩, hs, hnx2, by omega, by omega, hx⟩)
          done
        · rw [hb] at hnx
          by_cases c2 : lab.length < L.length
          · have hl := @hbad2 (by
              rw [hnx]
              simp only [stp]
              rw [if_neg (by omega), if_neg (by simp), if_pos (.inl c2)])
            have c2' : ((lab.length : Int) < (L.length : Int)) = True := by simp; omega
            (try (simp (disch := first | omega | (simp <;> omega) | fail) only [push_cast, ↓reduceIte, Nat.reduceEqDiff, Nat.reduceAdd, Nat.reduceMul, Nat.reduceSub, Nat.reduceLT, Int.reduceToNat, hlen, c2']))
            all_goals (try exact hl)
            done
          have c2' : ((lab.length : Int) < (L.length : Int)) = False := by simp; omega
          have hia : iaddrA 1 v (.int .i64 (a : Int)) = some (.adr b a) := by
            rw [hv, iaddrA_sl (by omega) (by omega)]
            congr 2
            omega
          have hget : (L.map AV.str)[a]? = some (.str (L.getD a [])) := by simp [show a < L.length by omega]
          have hxa : (L.getD a []).length ≤ 12 := hx _ (by simp [show a < L.length by omega])
          obtain ⟨xa, hxad⟩ : ∃ xa, xa = L.getD a [] := ⟨_, rfl⟩
          rw [← hxad] at hget hxa
          by_cases c3 : xa.length = 12
          · have hl := @hbad2 (by
              rw [hnx]
              simp only [stp]
              rw [if_neg (by omega), if_neg (by simp), if_pos (.inr ⟨trivial, by rw [← hxad]; exact c3⟩)])
            have c3' : ((xa.length : Int) = 12) = True := by simp; omega
            (try (simp (disch := first | omega | (simp <;> omega) | fail) only [push_cast, ↓reduceIte, Nat.reduceEqDiff, Nat.reduceAdd, Nat.reduceMul, Nat.reduceSub, Nat.reduceLT, Int.reduceToNat, hlen, c2', hia, hcb, hget, c3']))
            all_goals (try exact hl)
            done
          have c3' : ((xa.length : Int) = 12) = False := by simp; omega
          have hnx2 : (bits.take (i + 1)).foldl (stp true lab) (some ([[]], 0)) = some (L ++ [xa ++ [lab.getD (L.length - 1) 0]], a) := by
            rw [hnx]
            simp only [stp]
            rw [if_neg (by omega), if_neg (by simp), if_neg (fun h5 => h5.elim c2 fun h7 => c3 (by rw [hxad]; exact h7.2)), ← hxad]
          have htk : List.take (L.length - (L.length - 1)) (List.drop (L.length - 1) lab) = [lab.getD (L.length - 1) 0] := by
            rw [show L.length - (L.length - 1) = 1 by omega, List.drop_eq_getElem_cons (by omega), List.take_succ_cons, List.take_zero, List.getD_eq_getElem?_getD, List.getElem?_eq_getElem (by omega)]
            rfl
          obtain ⟨y, hy⟩ : ∃ y, y = xa ++ [lab.getD (L.length - 1) 0] := ⟨_, rfl⟩
          have hyl : y.length ≤ 12 := by
            rw [hy, List.length_append]
            simp only [List.length_cons, List.length_nil]
            omega
          have hcat : abin .add (.str xa) (.str [lab.getD (L.length - 1) 0]) = some (.str y) := by
            rw [hy]
            refine abin_s_add ?_
            simp only [List.length_cons, List.length_nil]
            omega
          rw [← hy] at hnx2
          have hfin : ∀ x ∈ L ++ [y], x.length ≤ 12 := fun x hx5 => by
            rcases List.mem_append.1 hx5 with h5 | h5
            · exact hx x h5
            · simp only [List.mem_singleton] at h5
              rw [h5]; exact hyl
          (try (simp (disch := first | omega | (simp <;> omega) | fail) only [push_cast, ↓reduceIte, Nat.reduceEqDiff, Nat.reduceAdd, Nat.reduceMul, Nat.reduceSub, Nat.reduceLT, Int.reduceToNat, hlen, c2', hia, hcb, hget, c3', htk, hcat, reads, List.mem_cons, List.mem_append, List.not_mem_nil, nat_ff, or_self, or_false, false_or, not_false_eq_true]))
          repeat' (with_reducible refine And.intro ?_ ?_)
          all_goals
            refine hs.app (by_ := 16) (fun c hc => by first | exact Or.inr (by omega) | exact ⟨Or.inr (by omega), by omega⟩ | exact ⟨Or.inr (by omega), by simp; omega⟩) (by omega) (by decide) fun v' h'' q1 q2 q3 => ?_
            (try (simp (disch := first | omega | (simp <;> omega) | fail) only [push_cast, ↓reduceIte, Nat.reduceEqDiff, Nat.reduceAdd, Nat.reduceMul, Nat.reduceSub, Nat.reduceLT, Int.reduceToNat]))
            all_goals (try exact ⟨v', a, L ++ [y], ⟨rfl, rfl⟩, q1, hnx2, by simp; omega, by simp; omega, hfin⟩)
            done
      · have hie : i = bits.length := by omega
        subst hie
        have hlt : ((bits.length : Int) < ss) = False := by simp; omega
        rw [List.take_length] at hf
        have hd : decT true lab bits = some (L, a) := hf
        have hLP : L.length ≤ 4096 := by omega
        (try (simp (disch := first | omega | (simp <;> omega) | fail) only [push_cast, ↓reduceIte, Nat.reduceEqDiff, Nat.reduceAdd, Nat.reduceMul, Nat.reduceSub, Nat.reduceLT, Int.reduceToNat, hlt]))
        obtain ⟨o4, w4, l4⟩ := hs.vwS (n := 0) (Nat.zero_le _)
        have hE4 := hEnd o4 h2 (by rw [l4]; omega)
        refine hE4.goL (.free (free_radT (free_cTr (t := ⟨⟨ss, sw⟩, ⟨es, ew⟩, lab⟩))) (.cons w4 .nil)) fun x t g1 hR hx1 how => ?_
        obtain ⟨Lk, rfl, hp1, hp2⟩ := hR
        rw [l4] at hp1
        have hV := hsort hok0 hd hp1 hp2
        have hdec := hdecd Lk
        have hyes := hyes Lk
        have hxl := hx1.len
        generalize noV ⟨⟨ss, sw⟩, ⟨es, ew⟩, lab⟩ = NV at *
        generalize trV ⟨⟨ss, sw⟩, ⟨es, ew⟩, lab⟩ = TV at *
        clear hEnd hdno hsort hdecd hE4
        by_cases cP : (L.length : Int) = es
        · have cP' : ((L.length : Int) = es) = True := by simp [cP]
          (try (simp (disch := first | omega | (simp <;> omega) | fail) only [push_cast, ↓reduceIte, Nat.reduceEqDiff, Nat.reduceAdd, Nat.reduceMul, Nat.reduceSub, Nat.reduceLT, Int.reduceToNat, hlen, cP']))
          refine (c_impl_AreKeys (some Lk)).lendL (.cons how.vw0 .nil) own_bool ?_
          have hlLk : lS (some Lk) = Lk := rfl
          rw [hlLk]
          cases hok4 : okKeys Lk
          · have hn := @hno (by rw [hV, if_neg (fun h5 => by rw [hok4] at h5; cases h5.1.2)])
            (try (simp (disch := first | omega | (simp <;> omega) | fail) only [push_cast, ↓reduceIte, Nat.reduceEqDiff, Nat.reduceAdd, Nat.reduceMul, Nat.reduceSub, Nat.reduceLT, Int.reduceToNat]))
            all_goals (try exact hn)
            done
          have hV2 : TV = if sameT (tK Lk) ⟨⟨ss, sw⟩, ⟨es, ew⟩, lab⟩ = true then some Lk else none := by
            rw [hV]
            by_cases h5 : sameT (tK Lk) ⟨⟨ss, sw⟩, ⟨es, ew⟩, lab⟩ = true
            · rw [if_pos h5, if_pos ⟨⟨cP, hok4⟩, h5⟩]
            · rw [if_neg h5, if_neg fun h7 => h5 h7.2]
          have ht := c_impl_trie_o (some Lk) hok4
          rw [hlLk] at ht
          (try (simp (disch := first | omega | (simp <;> omega) | fail) only [push_cast, ↓reduceIte, Nat.reduceEqDiff, Nat.reduceAdd, Nat.reduceMul, Nat.reduceSub, Nat.reduceLT, Int.reduceToNat]))
          refine ht.goL (.cons how.vw0 .nil) fun x2 t2 g2 hR2 hx2 how2 => ?_
          subst hR2
          obtain ⟨y2, y4, F2, F4, rfl, f2, f4, f5, f6, _⟩ := ow_trE how2
          obtain ⟨p1, p2⟩ := ow_eI f2
          obtain ⟨p3, p4⟩ := ow_eI f4
          have hxl2 := hx2.len
          generalize tK Lk = T at *
          have v5 : ∀ l, Vw (g2 ++ l) 0 (.agg [.int .i64 T.sh.size, y2]) (eB T.sh) := fun l => (Ow.aggOf (ts := cB T.sh) (.atom rfl (f2.frame fun c hc => List.getElem?_append_left (f5 c hc).2))).vw0
          have v7 : ∀ l, Vw (g2 ++ l) 0 (.agg [.int .i64 T.en.size, y4]) (eB T.en) := fun l => (Ow.aggOf (ts := cB T.en) (.atom rfl (f4.frame fun c hc => List.getElem?_append_left (f6 c hc).1.2))).vw0
          have hsm : sameT T ⟨⟨ss, sw⟩, ⟨es, ew⟩, lab⟩ = (sameB T.sh ⟨ss, sw⟩ && (sameB T.en ⟨es, ew⟩ && decide (T.lab = lab))) := rfl
          rw [hsm] at hV2
          have hvv : ∀ l : H, Ow (g2 ++ l) [v] [eS (some L)] (fun c => h.length ≤ c) := fun l => by
            rw [hv]
            refine ow_strs_of ?_ hbb
            have hbl5 := cells_lt hcb
            have hbl6 : b < g1.length := Nat.lt_of_lt_of_le hbl5 hx1.len
            have hbl7 : b < g2.length := Nat.lt_of_lt_of_le hbl6 hx2.len
            exact cells_keep ((List.getElem?_append_left hbl7).trans ((hx2.at_ hbl6).trans (hx1.at_ hbl5))) hcb
          have hfin : (sameB T.sh ⟨ss, sw⟩ && (sameB T.en ⟨es, ew⟩ && decide (T.lab = lab))) = true → ∀ l : H, ∃ t', Ow (g2 ++ l) [v] [t'] (fun c => h.length ≤ c) ∧ t' = NV := fun h5 l => by
            have hTV : TV = some Lk := by rw [hV2, if_pos h5]
            have h7 := hdec hTV
            rw [hd] at h7
            injection h7 with h7
            injection h7 with h7 _
            rw [hyes hTV, ← h7]
            exact ⟨_, hvv l, rfl⟩
          have hbadf : (sameB T.sh ⟨ss, sw⟩ && (sameB T.en ⟨es, ew⟩ && decide (T.lab = lab))) = false → ∀ {hh : H}, ∃ t', Ow hh [.nils] [t'] (fun c => h.length ≤ c) ∧ t' = NV := fun h5 => hno (by rw [hV2, if_neg (by rw [h5]; simp)])
          have hpm : (h.length ≤ g2.length) = True := eq_true (Nat.le_trans hs.1 (Nat.le_trans hx1.len hx2.len))
          (try (simp (disch := first | omega | (simp <;> omega) | fail) only [push_cast, ↓reduceIte, Nat.reduceEqDiff, Nat.reduceAdd, Nat.reduceMul, Nat.reduceSub, Nat.reduceLT, Int.reduceToNat, p1, p2, p3, p4, hpm, or_true, true_and, reads, List.mem_cons, List.mem_append, List.not_mem_nil, nat_ff, or_self, or_false, false_or, not_false_eq_true]))
          refine (c_impl_sameBits T.sh ⟨ss, sw⟩).lendL (.cons (v5 _) (.free (free_eB (b := ⟨ss, sw⟩)) .nil)) own_bool ?_
          cases hs1 : sameB T.sh ⟨ss, sw⟩
          · have hf5 := @hbadf (by rw [hs1]; rfl)
            (try (simp (disch := first | omega | (simp <;> omega) | fail) only [push_cast, ↓reduceIte, Nat.reduceEqDiff, Nat.reduceAdd, Nat.reduceMul, Nat.reduceSub, Nat.reduceLT, Int.reduceToNat, p1, p2, p3, p4, hpm, reads, List.mem_cons, List.mem_append, List.not_mem_nil, nat_ff, or_self, or_false, false_or, not_false_eq_true]))
            all_goals (try exact hf5)
            done
          · rw [hs1, Bool.true_and] at hfin hbadf
            (try (simp (disch := first | omega | (simp <;> omega) | fail) only [push_cast, ↓reduceIte, Nat.reduceEqDiff, Nat.reduceAdd, Nat.reduceMul, Nat.reduceSub, Nat.reduceLT, Int.reduceToNat, p1, p2, p3, p4, hpm, reads, List.mem_cons, List.mem_append, List.not_mem_nil, nat_ff, or_self, or_false, false_or, not_false_eq_true]))
            refine (c_impl_sameBits T.en ⟨es, ew⟩).lendL (.cons (v7 _) (.free (free_eB (b := ⟨es, ew⟩)) .nil)) own_bool ?_
            cases hs2 : sameB T.en ⟨es, ew⟩
            · have hf5 := @hbadf (by rw [hs2]; rfl)
              (try (simp (disch := first | omega | (simp <;> omega) | fail) only [push_cast, ↓reduceIte, Nat.reduceEqDiff, Nat.reduceAdd, Nat.reduceMul, Nat.reduceSub, Nat.reduceLT, Int.reduceToNat, p1, p2, p3, p4, hpm, reads, List.mem_cons, List.mem_append, List.not_mem_nil, nat_ff, or_self, or_false, false_or, not_false_eq_true]))
              all_goals (try exact hf5)
              done
            · rw [hs2, Bool.true_and] at hfin hbadf
              by_cases hlb : T.lab = lab
              · have hf5 := hfin (by simp [hlb])
                (try (simp (disch := first | omega | (simp <;> omega) | fail) only [push_cast, ↓reduceIte, Nat.reduceEqDiff, Nat.reduceAdd, Nat.reduceMul, Nat.reduceSub, Nat.reduceLT, Int.reduceToNat, p1, p2, p3, p4, hpm, hlb, reads, List.mem_cons, List.mem_append, List.not_mem_nil, nat_ff, or_self, or_false, false_or, not_false_eq_true]))
                all_goals (try exact hf5 _)
                done
              · have hf5 := @hbadf (by simp [hlb])
                (try (simp (disch := first | omega | (simp <;> omega) | fail) only [push_cast, ↓reduceIte, Nat.reduceEqDiff, Nat.reduceAdd, Nat.reduceMul, Nat.reduceSub, Nat.reduceLT, Int.reduceToNat, p1, p2, p3, p4, hpm, hlb, reads, List.mem_cons, List.mem_append, List.not_mem_nil, nat_ff, or_self, or_false, false_or, not_false_eq_true]))
                all_goals (try exact hf5)
                done
        · have hn := @hno (by rw [hV, if_neg (fun h5 => cP h5.1.1)])
          have cP' : ((L.length : Int) = es) = False := by simp [cP]
          (try (simp (disch := first | omega | (simp <;> omega) | fail) only [push_cast, ↓reduceIte, Nat.reduceEqDiff, Nat.reduceAdd, Nat.reduceMul, Nat.reduceSub, Nat.reduceLT, Int.reduceToNat, hlen, cP']))
          all_goals (try exact hn)
          done
    · have hn := @hno (hbad (by rw [hok0, decide_eq_false z2]; simp))
      have z1' : (ss = 2 * es - 1) = True := by simp [z1]
      (try (simp (disch := first | omega | (simp <;> omega) | fail) only [push_cast, ↓reduceIte, Nat.reduceEqDiff, Nat.reduceAdd, Nat.reduceMul, Nat.reduceSub, Nat.reduceLT, Int.reduceToNat, z1', z2]))
      all_goals (try exact hn)
  · have hn := @hno (hbad (by rw [hok0, decide_eq_false z1]; simp))
    (try (simp (disch := first | omega | (simp <;> omega) | fail) only [push_cast, ↓reduceIte, Nat.reduceEqDiff, Nat.reduceAdd, Nat.reduceMul, Nat.reduceSub, Nat.reduceLT, Int.reduceToNat, z1]))
    all_goals (try exact hn)

end Go.Proofs.YtdkgoaiodjokpaaGreat.M
