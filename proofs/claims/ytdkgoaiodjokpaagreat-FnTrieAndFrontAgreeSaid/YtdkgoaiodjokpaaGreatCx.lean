/-
  What the functions return.
-/
import Derived.Test.YtdkgoaiodjokpaaGreatFx
import Derived.Lib.ItoaLen
namespace Go.Proofs.YtdkgoaiodjokpaaGreat.M
open Go Go.RowKit
set_option linter.unusedVariables false
set_option linter.unusedSimpArgs false
set_option maxRecDepth 4000

theorem c_spec_l1In (n lo hi : Int) : Fn Tryz.prog 138 [.int .i64 n, .int .i64 lo, .int .i64 hi] (· = .bool (decide (lo ≤ n) && decide (n ≤ hi))) := by
  refine Fn.of free_bool fun h => ?_
  refine enter (by kernel_rfl) e138 (by kernel_rfl) rfl fun hok => ?_
  simp only [r138, initEnv_3]
  (try (simp (disch := first | omega | (simp <;> omega) | fail) only [push_cast, ↓reduceIte, Nat.reduceEqDiff, Nat.reduceAdd, Nat.reduceMul, Nat.reduceSub, Nat.reduceLT, Int.reduceToNat]))
  first | refine goC_split (fun hc => ?_) (fun hc => ?_) | refine cnd_split (fun hc => ?_) (fun hc => ?_)
  · (try (simp only [decide_eq_true_eq, decide_eq_false_iff_not, Bool.not_eq_true', Bool.not_eq_false', Bool.and_eq_true, Bool.or_eq_true, Int.not_lt, Int.not_le] at hc)); (try (simp (disch := first | omega | (simp <;> omega) | fail) only [push_cast, ↓reduceIte, Nat.reduceEqDiff, Nat.reduceAdd, Nat.reduceMul, Nat.reduceSub, Nat.reduceLT, Int.reduceToNat]))
    first | refine goC_split (fun hd => ?_) (fun hd => ?_) | refine cnd_split (fun hd => ?_) (fun hd => ?_)
    · (try (simp only [decide_eq_true_eq, decide_eq_false_iff_not, Bool.not_eq_true', Bool.not_eq_false', Bool.and_eq_true, Bool.or_eq_true, Int.not_lt, Int.not_le] at hd)); (try (simp (disch := first | omega | (simp <;> omega) | fail) only [push_cast, ↓reduceIte, Nat.reduceEqDiff, Nat.reduceAdd, Nat.reduceMul, Nat.reduceSub, Nat.reduceLT, Int.reduceToNat]))
    · (try (simp only [decide_eq_true_eq, decide_eq_false_iff_not, Bool.not_eq_true', Bool.not_eq_false', Bool.and_eq_true, Bool.or_eq_true, Int.not_lt, Int.not_le] at hd)); (try (simp (disch := first | omega | (simp <;> omega) | fail) only [push_cast, ↓reduceIte, Nat.reduceEqDiff, Nat.reduceAdd, Nat.reduceMul, Nat.reduceSub, Nat.reduceLT, Int.reduceToNat]))
  · (try (simp only [decide_eq_true_eq, decide_eq_false_iff_not, Bool.not_eq_true', Bool.not_eq_false', Bool.and_eq_true, Bool.or_eq_true, Int.not_lt, Int.not_le] at hc)); (try (simp (disch := first | omega | (simp <;> omega) | fail) only [push_cast, ↓reduceIte, Nat.reduceEqDiff, Nat.reduceAdd, Nat.reduceMul, Nat.reduceSub, Nat.reduceLT, Int.reduceToNat]))
    try simp

theorem c_spec_l1All (a : Option (List Int)) (lo hi : Int) : Fn Tryz.prog 109 [eI a, .int .i64 lo, .int .i64 hi] (· = .bool ((lI a).all fun m => decide (lo ≤ m) && decide (m ≤ hi))) := by
  refine Fn.of free_bool fun h => ?_
  refine enter (by kernel_rfl) e109 (by kernel_rfl) rfl fun hok => ?_
  simp only [r109, initEnv_3]
  have hlen := ok_eI (okV_0 hok)
  (try (simp (disch := first | omega | (simp <;> omega) | fail) only [push_cast, ↓reduceIte, Nat.reduceEqDiff, Nat.reduceAdd, Nat.reduceMul, Nat.reduceSub, Nat.reduceLT, Int.reduceToNat]))
  refine T_for (lI a).length (fun i e h' => Pins e [(1, .int .i64 lo), (2, .int .i64 hi), (9, eI a), (10, .int .i64 (lI a).length), (11, .int .i64 i)] ∧ h' = h ∧ ((lI a).take i).all (fun m => decide (lo ≤ m) && decide (m ≤ hi)) = true) ?_ ?_
  · (try (simp (disch := first | omega | (simp <;> omega) | fail) only [push_cast, ↓reduceIte, Nat.reduceEqDiff, Nat.reduceAdd, Nat.reduceMul, Nat.reduceSub, Nat.reduceLT, Int.reduceToNat]))
    all_goals (try simp)
  rintro i e h' hi_ ⟨hp, rfl, ha⟩
  refine T_pins hp fun e => ?_
  (try (simp (disch := first | omega | (simp <;> omega) | fail) only [push_cast, ↓reduceIte, Nat.reduceEqDiff, Nat.reduceAdd, Nat.reduceMul, Nat.reduceSub, Nat.reduceLT, Int.reduceToNat]))
  first | refine goC_split (fun hc => ?_) (fun hc => ?_) | refine cnd_split (fun hc => ?_) (fun hc => ?_)
  · (try (simp only [decide_eq_true_eq, decide_eq_false_iff_not, Bool.not_eq_true', Bool.not_eq_false', Bool.and_eq_true, Bool.or_eq_true, Int.not_lt, Int.not_le] at hc)); (try (simp (disch := first | omega | (simp <;> omega) | fail) only [push_cast, ↓reduceIte, Nat.reduceEqDiff, Nat.reduceAdd, Nat.reduceMul, Nat.reduceSub, Nat.reduceLT, Int.reduceToNat]))
    have hi2 : i < (lI a).length := by omega
    (try (simp (disch := first | omega | (simp <;> omega) | fail) only [push_cast, ↓reduceIte, Nat.reduceEqDiff, Nat.reduceAdd, Nat.reduceMul, Nat.reduceSub, Nat.reduceLT, Int.reduceToNat]))
    refine (c_spec_l1In _ _ _).call ?_
    have hn : ((lI a).take (i + 1)).all (fun m => decide (lo ≤ m) && decide (m ≤ hi)) = (decide (lo ≤ (lI a).getD i 0) && decide ((lI a).getD i 0 ≤ hi)) := by
      rw [List.take_add_one, List.all_append, ha]
      simp [hi2]
    cases hk : (decide (lo ≤ (lI a).getD i 0) && decide ((lI a).getD i 0 ≤ hi))
    · (try (simp (disch := first | omega | (simp <;> omega) | fail) only [push_cast, ↓reduceIte, Nat.reduceEqDiff, Nat.reduceAdd, Nat.reduceMul, Nat.reduceSub, Nat.reduceLT, Int.reduceToNat]))
      symm
      rw [List.all_eq_false]
      refine ⟨(lI a).getD i 0, by simp [hi2], by rw [hk]; simp⟩
    · (try (simp (disch := first | omega | (simp <;> omega) | fail) only [push_cast, ↓reduceIte, Nat.reduceEqDiff, Nat.reduceAdd, Nat.reduceMul, Nat.reduceSub, Nat.reduceLT, Int.reduceToNat]))
      rw [hn, hk]
  · (try (simp only [decide_eq_true_eq, decide_eq_false_iff_not, Bool.not_eq_true', Bool.not_eq_false', Bool.and_eq_true, Bool.or_eq_true, Int.not_lt, Int.not_le] at hc)); (try (simp (disch := first | omega | (simp <;> omega) | fail) only [push_cast, ↓reduceIte, Nat.reduceEqDiff, Nat.reduceAdd, Nat.reduceMul, Nat.reduceSub, Nat.reduceLT, Int.reduceToNat]))
    have : (lI a).take i = lI a := List.take_of_length_le (by omega)
    rw [this] at ha
    rw [ha]

/-- What is left of a budget. -/
def szv (left : Int) (w : Nat) : Int := if (w : Int) ≤ left then left - w else -1
theorem szv_ok {left : Int} {w : Nat} (h : 0 ≤ szv left w) : (w : Int) ≤ left := by
  unfold szv at h
  split at h <;> omega
def wS (a : Option (List Str)) : Nat := (lS a).length + ((lS a).map List.length).sum
theorem sum_take_le (l : List Nat) (i : Nat) : (l.take i).sum ≤ l.sum := by
  have := congrArg List.sum (List.take_append_drop i l)
  rw [List.sum_append] at this
  omega
theorem sum_take_succ {l : List Nat} {i : Nat} (hi : i < l.length) : (l.take (i + 1)).sum = (l.take i).sum + l.getD i 0 := by
  rw [List.take_add_one, List.sum_append]
  simp [hi]

--eng eB cB
structure Bt where
  size : Int
  words : Option (List Int)
  deriving Inhabited
def cB (b : Bt) : List AV := [.int .i64 b.size, eI b.words]
theorem cB_len (b : Bt) : (cB b).length = 2 := rfl
def eB (b : Bt) : AV := .agg (cB b)
theorem free_cB {b : Bt} : ∀ c ∈ cB b, Free c := free_cons_ free_int (free_cons_ free_eI free_nil_)
theorem free_eB {b : Bt} : Free (eB b) := free_agg free_cB
def cpB (b : Bt) : Bt := ⟨b.size, some (lI b.words)⟩
/-- The last word has no bit behind the size. -/
def lastOk (size : Int) (ws : List Int) : Bool := decide (size % 16 = 0) || decide (Int.fdiv (ws.getD (ws.length - 1) 0) (2 ^ (min (size % 16).toNat IntKind.i64.bits)) = 0)
def okWords (ws : List Int) : Bool := ws.all fun w => decide (0 ≤ w) && decide (w ≤ 65535)
def okBt (b : Bt) : Bool := (decide (0 ≤ b.size) && decide (b.size ≤ 4096)) && (decide (((lI b.words).length : Int) = (b.size + 15) / 16) && (okWords (lI b.words) && lastOk b.size (lI b.words)))
theorem okBt_words {b : Bt} (h : okBt b = true) : ∃ B : Nat, lI b.words = wordsN B (lI b.words).length ∧ 0 ≤ b.size ∧ b.size ≤ 4096 ∧ ((lI b.words).length : Int) = (b.size + 15) / 16 := by
  simp only [okBt, okWords, Bool.and_eq_true, decide_eq_true_eq, List.all_eq_true] at h
  exact ⟨numW (lI b.words), (wordsN_num h.2.2.1).symm, h.1.1, h.1.2, h.2.1⟩
theorem ow_bits {h : H} {x : AV} {n : Int} {ws : List Int} {G : Nat → Prop} (ho : Ow h [x] [eB ⟨n, some ws⟩] G) : ∃ b, x = .agg [.int .i64 n, .sl b 0 1 ws.length ws.length] ∧ Ow h [.int .i64 n, .sl b 0 1 ws.length ws.length] (cB ⟨n, some ws⟩) G := by
  obtain ⟨cs, rfl, h1⟩ := Ow.openAgg (show Ow h [x] [.agg (cB ⟨n, some ws⟩)] G from ho)
  have hl : cs.length = 2 := h1.len.symm
  match cs, hl, h1 with
  | [x1, x2], _, h1 =>
    obtain ⟨F, F', f1, f2, _, _⟩ := h1.uncons
    have e1 : x1 = .int .i64 n := f1.atomOf rfl
    obtain ⟨b, e2⟩ := Ow.sl1 (show Ow h [x2] [.ro 1 _ _] F' from f2)
    subst e1 e2
    exact ⟨b, rfl, h1⟩

attribute [push_cast] eB cB
theorem c_spec_biGood (b : Bt) : Fn Tryz.prog 128 [eB b] (· = .bool (okBt b)) := by
  refine Fn.of free_bool fun h => ?_
  refine enter (by kernel_rfl) e128 (by kernel_rfl) rfl fun hok => ?_
  simp only [r128, initEnv_1]
  (try (simp (disch := first | omega | (simp <;> omega) | fail) only [push_cast, ↓reduceIte, Nat.reduceEqDiff, Nat.reduceAdd, Nat.reduceMul, Nat.reduceSub, Nat.reduceLT, Int.reduceToNat]))
  unfold okBt
  refine (c_spec_l1In _ _ _).call ?_
  cases h1 : (decide (0 ≤ b.size) && decide (b.size ≤ 4096))
  · (try (simp (disch := first | omega | (simp <;> omega) | fail) only [push_cast, ↓reduceIte, Nat.reduceEqDiff, Nat.reduceAdd, Nat.reduceMul, Nat.reduceSub, Nat.reduceLT, Int.reduceToNat]))
  have h3 : 0 ≤ b.size ∧ b.size ≤ 4096 := by simpa using h1
  (try (simp (disch := first | omega | (simp <;> omega) | fail) only [push_cast, ↓reduceIte, Nat.reduceEqDiff, Nat.reduceAdd, Nat.reduceMul, Nat.reduceSub, Nat.reduceLT, Int.reduceToNat]))
  first | refine goC_split (fun hc => ?_) (fun hc => ?_) | refine cnd_split (fun hc => ?_) (fun hc => ?_)
  · (try (simp only [decide_eq_true_eq, decide_eq_false_iff_not, Bool.not_eq_true', Bool.not_eq_false', Bool.and_eq_true, Bool.or_eq_true, Int.not_lt, Int.not_le] at hc)); (try (simp (disch := first | omega | (simp <;> omega) | fail) only [push_cast, ↓reduceIte, Nat.reduceEqDiff, Nat.reduceAdd, Nat.reduceMul, Nat.reduceSub, Nat.reduceLT, Int.reduceToNat]))
    all_goals (try simp [hc])
  (try (simp only [decide_eq_true_eq, decide_eq_false_iff_not, Bool.not_eq_true', Bool.not_eq_false', Bool.and_eq_true, Bool.or_eq_true, Int.not_lt, Int.not_le] at hc)); (try (simp (disch := first | omega | (simp <;> omega) | fail) only [push_cast, ↓reduceIte, Nat.reduceEqDiff, Nat.reduceAdd, Nat.reduceMul, Nat.reduceSub, Nat.reduceLT, Int.reduceToNat]))
  refine (c_spec_l1All _ _ _).call ?_
  rw [show ((lI b.words).all fun m => decide (0 ≤ m) && decide (m ≤ 65535)) = okWords (lI b.words) from rfl]
  cases h2 : okWords (lI b.words)
  · (try (simp (disch := first | omega | (simp <;> omega) | fail) only [push_cast, ↓reduceIte, Nat.reduceEqDiff, Nat.reduceAdd, Nat.reduceMul, Nat.reduceSub, Nat.reduceLT, Int.reduceToNat]))
    all_goals (try simp)
  unfold lastOk
  by_cases hz : b.size % 16 = 0
  · (try (simp (disch := first | omega | (simp <;> omega) | fail) only [push_cast, ↓reduceIte, Nat.reduceEqDiff, Nat.reduceAdd, Nat.reduceMul, Nat.reduceSub, Nat.reduceLT, Int.reduceToNat, hz]))
    all_goals (try simp [hc])
  · have hln : 1 ≤ (lI b.words).length := by omega
    have hm : 0 ≤ b.size % 16 ∧ b.size % 16 ≤ 15 := by omega
    (try (simp (disch := first | omega | (simp <;> omega) | fail) only [push_cast, ↓reduceIte, Nat.reduceEqDiff, Nat.reduceAdd, Nat.reduceMul, Nat.reduceSub, Nat.reduceLT, Int.reduceToNat, hz]))
    (first | refine goC_split (fun hc => ?_) (fun hc => ?_) | refine cnd_split (fun hc => ?_) (fun hc => ?_)) <;> ((try (simp (disch := first | omega | (simp <;> omega) | fail) only [push_cast, ↓reduceIte, Nat.reduceEqDiff, Nat.reduceAdd, Nat.reduceMul, Nat.reduceSub, Nat.reduceLT, Int.reduceToNat]))) <;> (try rw [hc])

theorem at_word {B m i : Nat} {ws : List Int} (hw : ws = wordsN B m) (hi : i < 16 * m) : decide (bitsI .and .i64 (Int.fdiv (ws.getD ((i : Int) / 16).toNat 0) (2 ^ (min ((i : Int) % 16).toNat IntKind.i64.bits))) 1 = 1) = B.testBit i := by
  have e1 : ((i : Int) / 16).toNat = i / 16 := by omega
  have e2 : ((i : Int) % 16).toNat = i % 16 := by omega
  rw [hw, e1, e2, wordsN_get (by omega), at_bit wordN_lt (by omega), wordN_bit (by omega)]
  congr 1
  omega

theorem c_spec_biAt (b : Bt) (B m i : Nat) (hw : lI b.words = wordsN B m) (hi : i < 16 * m) (hm : m ≤ 1000000) : Fn Tryz.prog 124 [eB b, .int .i64 i] (· = .bool (B.testBit i)) := by
  refine Fn.of free_bool fun h => ?_
  refine enter (by kernel_rfl) e124 (by kernel_rfl) rfl fun hok => ?_
  simp only [r124, initEnv_2]
  have hln : (lI b.words).length = m := by rw [hw, wordsN_len]
  have hat := at_word hw hi
  (try (simp (disch := first | omega | (simp <;> omega) | fail) only [push_cast, ↓reduceIte, Nat.reduceEqDiff, Nat.reduceAdd, Nat.reduceMul, Nat.reduceSub, Nat.reduceLT, Int.reduceToNat]))
  rw [← hat]
  (first | refine goC_split (fun hc => ?_) (fun hc => ?_) | refine cnd_split (fun hc => ?_) (fun hc => ?_)) <;> ((try (simp (disch := first | omega | (simp <;> omega) | fail) only [push_cast, ↓reduceIte, Nat.reduceEqDiff, Nat.reduceAdd, Nat.reduceMul, Nat.reduceSub, Nat.reduceLT, Int.reduceToNat]))) <;> (try rw [hc])

theorem bl_nil : ∀ a : Str, Op.bytesLess a [] = false
  | [] => rfl
  | _ :: _ => rfl
theorem bl_cons {x y : UInt8} {a b : Str} : Op.bytesLess (x :: a) (y :: b) = (decide (x < y) || (x == y && Op.bytesLess a b)) := rfl
theorem bl_irr : ∀ a : Str, Op.bytesLess a a = false
  | [] => rfl
  | x :: a => by
    rw [bl_cons, bl_irr a]
    simp
theorem bl_tri : ∀ a b : Str, Op.bytesLess a b = true ∨ a = b ∨ Op.bytesLess b a = true
  | [], [] => .inr (.inl rfl)
  | [], _ :: _ => .inl rfl
  | _ :: _, [] => .inr (.inr rfl)
  | x :: a, y :: b => by
    rw [bl_cons, bl_cons]
    have h3 : x < y ∨ x = y ∨ y < x := by
      rcases Nat.lt_trichotomy x.toNat y.toNat with h | h | h
      · exact .inl (UInt8.lt_iff_toNat_lt.2 h)
      · exact .inr (.inl (UInt8.toNat_inj.1 h))
      · exact .inr (.inr (UInt8.lt_iff_toNat_lt.2 h))
    rcases h3 with h | h | h
    · left; simp [h]
    · subst h
      rcases bl_tri a b with h1 | h1 | h1
      · left; simp [h1]
      · right; left; rw [h1]
      · right; right; simp [h1]
    · right; right; simp [h]
theorem bl_trans : ∀ {a b c : Str}, Op.bytesLess a b = true → Op.bytesLess b c = true → Op.bytesLess a c = true
  | a, b, [], h1, h2 => by rw [bl_nil] at h2; cases h2
  | a, [], z :: c, h1, h2 => by rw [bl_nil] at h1; cases h1
  | [], _ :: _, _ :: _, h1, h2 => rfl
  | x :: a, y :: b, z :: c, h1, h2 => by
    rw [bl_cons] at h1 h2 ⊢
    simp only [Bool.or_eq_true, decide_eq_true_eq, Bool.and_eq_true, beq_iff_eq] at h1 h2 ⊢
    rcases h1 with h1 | ⟨rfl, h1⟩
    · rcases h2 with h2 | ⟨rfl, h2⟩
      · exact .inl (UInt8.lt_trans h1 h2)
      · exact .inl h1
    · rcases h2 with h2 | ⟨rfl, h2⟩
      · exact .inl h2
      · exact .inr ⟨rfl, bl_trans h1 h2⟩
theorem bl_asym {a b : Str} (h1 : Op.bytesLess a b = true) (h2 : Op.bytesLess b a = true) : False := by
  have := bl_trans h1 h2
  rw [bl_irr] at this
  cases this
theorem bl_app : ∀ {a b x y : Str}, a.length = b.length → Op.bytesLess (a ++ x) (b ++ y) = (Op.bytesLess a b || (decide (a = b) && Op.bytesLess x y))
  | [], [], x, y, _ => by simp [bl_irr]
  | [], _ :: _, _, _, h => by simp at h
  | _ :: _, [], _, _, h => by simp at h
  | u :: a, v :: b, x, y, h => by
    rw [List.cons_append, List.cons_append, bl_cons, bl_cons, bl_app (by simpa using h)]
    by_cases h1 : u = v
    · subst h1
      by_cases h2 : a = b
      · simp [h2]
      · simp [h2]
    · have h3 : (u == v) = false := by simp [h1]
      simp [h1, h3]
theorem bl_take {a b : Str} {n : Nat} (h : Op.bytesLess a b = true) (ha : n ≤ a.length) (hb : n ≤ b.length) : a.take n = b.take n ∨ Op.bytesLess (a.take n) (b.take n) = true := by
  rw [← List.take_append_drop n a, ← List.take_append_drop n b, bl_app (by simp; omega)] at h
  simp only [Bool.or_eq_true, Bool.and_eq_true, decide_eq_true_eq] at h
  rcases h with h | h
  · exact .inr h
  · exact .inl h.1
/-- Two lists in strict order with the same members are one. -/
theorem pw_uniq {α : Type} {r : α → α → Prop} (hr : ∀ a b, r a b → r b a → False) : ∀ {l1 l2 : List α}, l1.Pairwise r → l2.Pairwise r → (∀ x, x ∈ l1 ↔ x ∈ l2) → l1 = l2
  | [], l2, _, _, h => by
    cases l2 with
    | nil => rfl
    | cons b l2 => exact absurd ((h b).2 (by simp)) (by simp)
  | a :: l1, [], _, _, h => absurd ((h a).1 (by simp)) (by simp)
  | a :: l1, b :: l2, h1, h2, h => by
    rw [List.pairwise_cons] at h1 h2
    have hab : a = b := by
      rcases List.mem_cons.1 ((h a).1 (by simp)) with h5 | h5
      · exact h5
      · rcases List.mem_cons.1 ((h b).2 (by simp)) with h7 | h7
        · exact h7.symm
        · exact (hr _ _ (h1.1 b h7) (h2.1 a h5)).elim
    subst hab
    congr 1
    refine pw_uniq hr h1.2 h2.2 fun x => ⟨fun hx => ?_, fun hx => ?_⟩
    · rcases List.mem_cons.1 ((h x).1 (List.mem_cons_of_mem _ hx)) with h5 | h5
      · subst h5
        exact (hr _ _ (h1.1 x hx) (h1.1 x hx)).elim
      · exact h5
    · rcases List.mem_cons.1 ((h x).2 (List.mem_cons_of_mem _ hx)) with h5 | h5
      · subst h5
        exact (hr _ _ (h2.1 x hx) (h2.1 x hx)).elim
      · exact h5
theorem pw_nodup {α : Type} {r : α → α → Prop} (hr : ∀ a, ¬ r a a) {l : List α} (h : l.Pairwise r) : l.Nodup := by
  refine h.imp fun {a b} h1 h2 => ?_
  subst h2
  exact hr _ h1
def slt (a b : Str) : Prop := Op.bytesLess a b = true
theorem slt_asym : ∀ a b, slt a b → slt b a → False := fun _ _ => bl_asym
/-- The order of nodes: shorter ones first. -/
def nltB (a b : Str) : Bool := decide (a.length < b.length) || (decide (a.length = b.length) && Op.bytesLess a b)
def nlt (a b : Str) : Prop := a.length < b.length ∨ (a.length = b.length ∧ Op.bytesLess a b = true)
theorem nltB_iff {a b : Str} : nltB a b = true ↔ nlt a b := by
  unfold nltB nlt
  simp
theorem nlt_asym : ∀ a b, nlt a b → nlt b a → False := fun a b h1 h2 => by
  unfold nlt at h1 h2
  rcases h1 with h1 | ⟨h1, h3⟩ <;> rcases h2 with h2 | ⟨h2, h4⟩
  · omega
  · omega
  · omega
  · exact bl_asym h3 h4
theorem nlt_irr : ∀ a, ¬ nlt a a := fun a h => nlt_asym a a h h
theorem nlt_trans {a b c : Str} (h1 : nlt a b) (h2 : nlt b c) : nlt a c := by
  unfold nlt at *
  rcases h1 with h1 | ⟨h1, h3⟩ <;> rcases h2 with h2 | ⟨h2, h4⟩
  · left; omega
  · left; omega
  · left; omega
  · exact .inr ⟨by omega, bl_trans h3 h4⟩
theorem nlt_tri (a b : Str) : nlt a b ∨ a = b ∨ nlt b a := by
  unfold nlt
  rcases Nat.lt_trichotomy a.length b.length with h | h | h
  · exact .inl (.inl h)
  · rcases bl_tri a b with h1 | h1 | h1
    · exact .inl (.inr ⟨h, h1⟩)
    · exact .inr (.inl h1)
    · exact .inr (.inr (.inr ⟨h.symm, h1⟩))
  · exact .inr (.inr (.inl h))

def okByte (c : UInt8) : Bool := decide (33 ≤ (c.toNat : Int)) && decide ((c.toNat : Int) ≤ 125)
def okKey (s : Str) : Bool := s.all okByte && (decide (1 ≤ (s.length : Int)) && decide ((s.length : Int) ≤ 12))
/-- Sorted, each a key. -/
def okKeysFrom (l : List Str) : Nat → Bool
  | 0 => true
  | i + 1 => okKeysFrom l i && (okKey (l.getD i []) && (decide (i = 0) || Op.bytesLess (l.getD (i - 1) []) (l.getD i [])))
def okKeys (l : List Str) : Bool := okKeysFrom l l.length && decide ((l.length : Int) ≤ 40)
theorem okKeysFrom_false {l : List Str} {i : Nat} : ∀ {j}, i ≤ j → okKeysFrom l i = false → okKeysFrom l j = false
  | 0, h, hf => by
    rw [show i = 0 by omega] at hf
    exact hf
  | j + 1, h, hf => by
    by_cases hi : i = j + 1
    · rw [← hi]
      exact hf
    · simp [okKeysFrom, okKeysFrom_false (show i ≤ j by omega) hf]

/-- Right keys. -/
theorem okKeysFrom_all {l : List Str} : ∀ {i : Nat}, okKeysFrom l i = true → i ≤ l.length → (∀ j, j < i → okKey (l.getD j []) = true) ∧ (l.take i).Pairwise slt
  | 0, _, _ => ⟨fun j hj => by omega, by simp⟩
  | i + 1, h, hi => by
    simp only [okKeysFrom, Bool.and_eq_true, Bool.or_eq_true, decide_eq_true_eq] at h
    obtain ⟨h1, h2, h3⟩ := h
    obtain ⟨g1, g2⟩ := okKeysFrom_all h1 (by omega)
    refine ⟨fun j hj => ?_, ?_⟩
    · rcases Nat.lt_or_ge j i with h5 | h5
      · exact g1 j h5
      · rw [show j = i by omega]
        exact h2
    · rw [List.take_add_one, List.getElem?_eq_getElem (by omega), Option.toList_some, List.pairwise_append]
      refine ⟨g2, by simp, fun a ha b hb => ?_⟩
      simp only [List.mem_singleton] at hb
      subst hb
      have hgi : l.getD i [] = l[i] := by simp [show i < l.length by omega]
      rw [hgi] at h3
      rcases h3 with h3 | h3
      · subst h3
        simp at ha
      · have hm : (l.take i).getLastD [] = l.getD (i - 1) [] := by
          rw [List.getLastD_eq_getLast?, List.getLast?_eq_getElem?]
          simp only [List.length_take, List.getElem?_take]
          rw [List.getD_eq_getElem?_getD]
          rw [show min i l.length = i by omega]
          by_cases h0 : i = 0
          · subst h0
            simp at ha
          · rw [if_pos (by omega)]
        by_cases hl : a = l.getD (i - 1) []
        · rw [hl]
          exact h3
        · refine bl_trans (b := l.getD (i - 1) []) ?_ h3
          obtain ⟨j, hj, rfl⟩ := List.mem_iff_getElem.1 ha
          have hj2 := hj
          rw [List.length_take] at hj2
          have hji : j ≠ i - 1 := fun h5 => hl (by subst h5; simp [show i - 1 < l.length by omega])
          have := List.pairwise_iff_getElem.1 g2 j (i - 1) hj (by rw [List.length_take]; omega) (by omega)
          unfold slt at this
          simpa [show i - 1 < l.length by omega] using this
theorem okKeys_all {l : List Str} (h : okKeys l = true) : (∀ s ∈ l, okKey s = true) ∧ l.Pairwise slt ∧ l.length ≤ 40 := by
  simp only [okKeys, Bool.and_eq_true, decide_eq_true_eq] at h
  obtain ⟨g1, g2⟩ := okKeysFrom_all h.1 (Nat.le_refl _)
  rw [List.take_length] at g2
  refine ⟨fun s hs => ?_, g2, by omega⟩
  obtain ⟨j, hj, rfl⟩ := List.mem_iff_getElem.1 hs
  have := g1 j hj
  simpa [hj] using this
theorem okKeys_of {l : List Str} (h1 : ∀ s ∈ l, okKey s = true) (h2 : l.Pairwise slt) (h3 : l.length ≤ 40) : okKeys l = true := by
  have key : ∀ i, i ≤ l.length → okKeysFrom l i = true := by
    intro i
    induction i with
    | zero => intro _; rfl
    | succ i ih =>
      intro hi
      simp only [okKeysFrom, Bool.and_eq_true, Bool.or_eq_true, decide_eq_true_eq]
      refine ⟨ih (by omega), h1 _ (by simp [show i < l.length by omega]), ?_⟩
      by_cases h0 : i = 0
      · exact .inl h0
      · right
        have := List.pairwise_iff_getElem.1 h2 (i - 1) i (by omega) (by omega) (by omega)
        unfold slt at this
        simpa [show i < l.length by omega, show i - 1 < l.length by omega] using this
  simp only [okKeys, Bool.and_eq_true, decide_eq_true_eq]
  exact ⟨key _ (Nat.le_refl _), by omega⟩
theorem okKey_len {s : Str} (h : okKey s = true) : 1 ≤ s.length ∧ s.length ≤ 12 := by
  simp only [okKey, Bool.and_eq_true, decide_eq_true_eq] at h
  omega
/-- The nodes, level by level. -/
def ndS (n : Nat) (out : List Str) (s : Str) : List Str := if n ≤ s.length ∧ s.take n ≠ out.getLastD [] then out ++ [s.take n] else out
def nodesTo (K : List Str) : Nat → List Str
  | 0 => [[]]
  | n + 1 => K.foldl (ndS (n + 1)) (nodesTo K n)
def nodesK (K : List Str) : List Str := nodesTo K 12
theorem foldl_take {α β : Type} {f : β → α → β} {b : β} {l : List α} {i : Nat} {d : α} (hi : i < l.length) : (l.take (i + 1)).foldl f b = f ((l.take i).foldl f b) (l.getD i d) := by
  rw [List.take_add_one, List.foldl_append, List.getElem?_eq_getElem hi]
  simp [hi]
structure NdI (K : List Str) (n k : Nat) (out : List Str) : Prop where
  pw : out.Pairwise nlt
  mem : ∀ x, x ∈ out ↔ (x = [] ∨ (x.length ≤ n ∧ ∃ s ∈ K, x = s.take x.length)) ∨ ∃ s ∈ K.take k, n + 1 ≤ s.length ∧ x = s.take (n + 1)
theorem NdI.step {K : List Str} (hK : K.Pairwise slt) {n k : Nat} {out : List Str} (h : NdI K n k out) (hk : k < K.length) : NdI K n (k + 1) (ndS (n + 1) out (K.getD k [])) := by
  have hg : K.getD k [] = K[k] := by simp [hk]
  have htk : K.take (k + 1) = K.take k ++ [K[k]] := by
    rw [List.take_add_one, List.getElem?_eq_getElem hk, Option.toList_some]
  have hle : ∀ x ∈ out, x.length ≤ n + 1 := fun x hx => by
    rcases (h.mem x).1 hx with (h1 | h1) | ⟨s, _, h1, h2⟩
    · rw [h1]; simp
    · omega
    · rw [h2, List.length_take]; omega
  rw [hg]
  unfold ndS
  by_cases h1 : n + 1 ≤ K[k].length
  · have hlt : ∀ y ∈ out, y.length = n + 1 → y = K[k].take (n + 1) ∨ Op.bytesLess y (K[k].take (n + 1)) = true := fun y hy hyl => by
      rcases (h.mem y).1 hy with (h3 | h3) | ⟨s, hs, h3, h4⟩
      · rw [h3] at hyl; simp at hyl
      · omega
      · obtain ⟨j, hj, rfl⟩ := List.mem_iff_getElem.1 hs
        rw [List.length_take] at hj
        rw [List.getElem_take] at h3 h4
        have := List.pairwise_iff_getElem.1 hK j k (by omega) hk (by omega)
        rw [h4]
        exact bl_take this h3 h1
    by_cases h2 : K[k].take (n + 1) = out.getLastD []
    · rw [if_neg (fun h5 => h5.2 h2)]
      have hin : K[k].take (n + 1) ∈ out := by
        rw [h2, List.getLastD_eq_getLast?]
        cases hl : out.getLast? with
        | none =>
          rw [List.getLast?_eq_none_iff] at hl
          subst hl
          have := congrArg List.length h2
          rw [List.length_take] at this
          have e : (([] : List Str).getLastD []).length = 0 := rfl
          omega
        | some y =>
          simp only [Option.getD_some]
          exact List.mem_of_getLast? hl
      refine ⟨h.pw, fun x => (h.mem x).trans ⟨fun hx => hx.imp id fun ⟨s, hs, h5⟩ => ⟨s, by rw [htk]; exact List.mem_append.2 (.inl hs), h5⟩, fun hx => ?_⟩⟩
      rcases hx with hx | ⟨s, hs, h5, h6⟩
      · exact .inl hx
      · rw [htk] at hs
        rcases List.mem_append.1 hs with hs | hs
        · exact .inr ⟨s, hs, h5, h6⟩
        · simp only [List.mem_singleton] at hs
          subst hs
          rw [h6]
          exact (h.mem _).1 hin
    · rw [if_pos ⟨h1, h2⟩]
      have hxl : (K[k].take (n + 1)).length = n + 1 := by rw [List.length_take]; omega
      have hnew : ∀ y ∈ out, nlt y (K[k].take (n + 1)) := fun y hy => by
        have hyl := hle y hy
        rcases Nat.lt_or_ge y.length (n + 1) with h5 | h5
        · left; omega
        · rcases hlt y hy (by omega) with h7 | h7
          · exfalso
            -- the last one is as great
            obtain ⟨z, hz⟩ : ∃ z, out.getLast? = some z := by
              cases hl : out.getLast? with
              | none =>
                rw [List.getLast?_eq_none_iff] at hl
                rw [hl] at hy
                cases hy
              | some z => exact ⟨z, rfl⟩
            have hzl : out.getLastD [] = z := by rw [List.getLastD_eq_getLast?, hz]; rfl
            have hzm := List.mem_of_getLast? hz
            rw [hzl] at h2
            obtain ⟨l0, rfl⟩ := List.getLast?_eq_some_iff.1 hz
            have hyz : nlt y z := by
              rcases List.mem_append.1 hy with h8 | h8
              · exact (List.pairwise_append.1 h.pw).2.2 y h8 z (by simp)
              · simp only [List.mem_singleton] at h8
                rw [h8] at h7
                exact absurd h7.symm h2
            have hzl2 := hle z hzm
            rcases hyz with h8 | ⟨h8, h9⟩
            · omega
            · rcases hlt z hzm (by omega) with h10 | h10
              · exact h2 h10.symm
              · rw [h7] at h9
                exact bl_asym h9 h10
          · exact .inr ⟨by omega, h7⟩
      refine ⟨List.pairwise_append.2 ⟨h.pw, by simp, fun a ha b hb => ?_⟩, fun x => ?_⟩
      · simp only [List.mem_singleton] at hb
        subst hb
        exact hnew a ha
      · rw [List.mem_append, List.mem_singleton, h.mem x, htk]
        constructor
        · rintro (hx | hx)
          · exact hx.imp id fun ⟨s, hs, h5⟩ => ⟨s, List.mem_append.2 (.inl hs), h5⟩
          · exact .inr ⟨K[k], List.mem_append.2 (.inr (by simp)), h1, hx⟩
        · rintro (hx | ⟨s, hs, h5, h6⟩)
          · exact .inl (.inl hx)
          · rcases List.mem_append.1 hs with hs | hs
            · exact .inl (.inr ⟨s, hs, h5, h6⟩)
            · simp only [List.mem_singleton] at hs
              subst hs
              exact .inr h6
  · rw [if_neg (fun h5 => h1 h5.1)]
    refine ⟨h.pw, fun x => (h.mem x).trans ⟨fun hx => hx.imp id fun ⟨s, hs, h5⟩ => ⟨s, by rw [htk]; exact List.mem_append.2 (.inl hs), h5⟩, fun hx => hx.imp id fun ⟨s, hs, h5, h6⟩ => ?_⟩⟩
    rw [htk] at hs
    rcases List.mem_append.1 hs with hs | hs
    · exact ⟨s, hs, h5, h6⟩
    · simp only [List.mem_singleton] at hs
      subst hs
      exact absurd h5 h1
theorem NdI.run {K : List Str} (hK : K.Pairwise slt) {n : Nat} {out : List Str} (h : NdI K n 0 out) : ∀ k, k ≤ K.length → NdI K n k ((K.take k).foldl (ndS (n + 1)) out)
  | 0, _ => by simpa using h
  | k + 1, hk => by
    rw [foldl_take (d := []) (by omega)]
    exact (NdI.run hK h k (by omega)).step hK (by omega)
theorem nodesTo_ok {K : List Str} (hK : K.Pairwise slt) : ∀ n, NdI K n 0 (nodesTo K n)
  | 0 => ⟨by simp [nodesTo], fun x => by
      simp only [nodesTo, List.mem_singleton, List.take_zero, List.not_mem_nil, false_and, exists_false, or_false]
      constructor
      · intro h; exact .inl h
      · rintro (h | ⟨h, _⟩)
        · exact h
        · exact List.eq_nil_of_length_eq_zero (by omega)⟩
  | n + 1 => by
    have := (nodesTo_ok hK n).run hK K.length (Nat.le_refl _)
    rw [List.take_length] at this
    refine ⟨this.pw, fun x => ?_⟩
    show x ∈ K.foldl (ndS (n + 1)) (nodesTo K n) ↔ _
    rw [this.mem x, List.take_length]
    simp only [List.take_zero, List.not_mem_nil, false_and, exists_false, or_false]
    constructor
    · rintro ((h | ⟨h, s, hs, h1⟩) | ⟨s, hs, h1, h2⟩)
      · exact .inl h
      · exact .inr ⟨by omega, s, hs, h1⟩
      · have hl : x.length = n + 1 := by rw [h2, List.length_take]; omega
        exact .inr ⟨by omega, s, hs, by rw [hl]; exact h2⟩
    · rintro (h | ⟨h, s, hs, h1⟩)
      · exact .inl (.inl h)
      · rcases Nat.lt_or_ge x.length (n + 1) with h5 | h5
        · exact .inl (.inr ⟨by omega, s, hs, h1⟩)
        · have hl : x.length = n + 1 := by omega
          refine .inr ⟨s, hs, ?_, by rw [← hl]; exact h1⟩
          have := congrArg List.length h1
          rw [List.length_take] at this
          omega
/-- What the nodes are. -/
theorem nodesK_ok {K : List Str} (hK : okKeys K = true) : (nodesK K).Pairwise nlt ∧ ∀ x, x ∈ nodesK K ↔ x = [] ∨ ∃ s ∈ K, x = s.take x.length := by
  obtain ⟨h1, h2, h3⟩ := okKeys_all hK
  have h := nodesTo_ok h2 12
  refine ⟨h.pw, fun x => (h.mem x).trans ?_⟩
  simp only [List.take_zero, List.not_mem_nil, false_and, exists_false, or_false]
  constructor
  · rintro (h | ⟨_, h⟩)
    · exact .inl h
    · exact .inr h
  · rintro (h | ⟨s, hs, h5⟩)
    · exact .inl h
    · refine .inr ⟨?_, s, hs, h5⟩
      have := (okKey_len (h1 s hs)).2
      have h7 := congrArg List.length h5
      rw [List.length_take] at h7
      omega

theorem wordsN_succ {B m : Nat} : wordsN B (m + 1) = (wordN B 0 : Int) :: wordsN (B >>> 16) m := by
  unfold wordsN
  rw [List.range_succ_eq_map, List.map_cons, List.map_map]
  congr 1
  refine List.map_congr_left fun k _ => ?_
  simp only [Function.comp]
  unfold wordN
  rw [← Nat.shiftRight_add]
  congr 3
  omega
theorem numW_wordsN : ∀ {m B : Nat}, B < 2 ^ (16 * m) → numW (wordsN B m) = B
  | 0, B, h => by
    have : B = 0 := by simpa using h
    subst this
    rfl
  | m + 1, B, h => by
    have h16 : (2 : Nat) ^ 16 = 65536 := rfl
    have hlt : B >>> 16 < 2 ^ (16 * m) := by
      rw [Nat.shiftRight_eq_div_pow, Nat.div_lt_iff_lt_mul (Nat.two_pow_pos _), ← Nat.pow_add]
      rwa [show 16 * m + 16 = 16 * (m + 1) by omega]
    rw [wordsN_succ, numW, numW_wordsN hlt]
    have hw : (wordN B 0 : Int).toNat = B % 65536 := by
      rw [Int.toNat_natCast]
      rfl
    rw [hw, Nat.shiftRight_eq_div_pow, h16]
    omega
/-- A number whose bits are told. -/
def mkN (n : Nat) (g : Nat → Bool) : Nat := (List.range n).foldl (fun B i => setB B i (g i)) 0
theorem mkN_succ {n : Nat} {g : Nat → Bool} : mkN (n + 1) g = setB (mkN n g) n (g n) := by
  unfold mkN
  rw [List.range_succ, List.foldl_append]
  rfl
theorem mkN_bit {g : Nat → Bool} {j : Nat} : ∀ {n : Nat}, (mkN n g).testBit j = (decide (j < n) && g j)
  | 0 => by simp [mkN]
  | n + 1 => by
    rw [mkN_succ, setB_bit]
    by_cases h : j = n
    · subst h
      simp
    · rw [if_neg h, mkN_bit]
      congr 1
      rw [decide_eq_decide]
      omega

--eng lenA_eO iaddr_eO get_O one_eO cellsOf_eO
def eO : Option (List Bool) → AV
  | none => .nils
  | some l => .ro 1 (l.map .bool) l.length
def lO : Option (List Bool) → List Bool
  | none => []
  | some l => l
theorem lenA_eO {l : Option (List Bool)} : lenA (eO l) = some (.int .i64 (lO l).length) := by cases l <;> rfl
theorem iaddr_eO {l : Option (List Bool)} {k : IntKind} {n : Int} (h1 : 0 ≤ n) (h2 : n < (lO l).length) : iaddrA 1 (eO l) (.int k n) = some (.rad ((lO l).map .bool) n.toNat) := by
  cases l with
  | none => simp [lO] at h2; omega
  | some l => exact (iaddrA_ro h1 h2).trans (by simp [lO])
theorem get_O {l : List Bool} {i : Nat} (hi : i < l.length) : (l.map AV.bool)[i]? = some (.bool (l.getD i false)) := by simp [hi]
theorem one_eO {l : Option (List Bool)} : one (eO l) = true := by cases l <;> rfl
theorem cellsOf_eO {l : Option (List Bool)} : cellsOf (eO l) = [eO l] := by cases l <;> rfl
theorem free_eO {l : Option (List Bool)} : Free (eO l) := by
  cases l with
  | none => exact free_nils
  | some l => exact free_ro (free_map_ fun _ => free_bool)
theorem ok_eO {l : Option (List Bool)} (h : OkV (eO l)) : (lO l).length ≤ 9223372036854775807 := by
  cases l with
  | none => simp [lO]
  | some l => exact h.ro.1

attribute [push_cast] lenA_eO iaddr_eO get_O one_eO cellsOf_eO
/-- The number of a list of bits, so far. -/
def bitN (l : List Bool) (n : Nat) : Nat := mkN n fun i => l.getD i false
theorem bitN_on {l : List Bool} {i : Nat} (h : l.getD i false = true) : bitN l (i + 1) = bitN l i ||| 2 ^ i := by
  unfold bitN
  rw [mkN_succ, h]
  refine Nat.eq_of_testBit_eq fun j => ?_
  rw [setB_bit, Nat.testBit_or, Nat.testBit_two_pow]
  by_cases hj : j = i
  · simp [hj]
  · simp [hj, Ne.symm hj]
theorem bitN_off {l : List Bool} {i : Nat} (h : l.getD i false = false) : bitN l (i + 1) = bitN l i := by
  unfold bitN
  rw [mkN_succ, h]
  refine Nat.eq_of_testBit_eq fun j => ?_
  rw [setB_bit, mkN_bit]
  by_cases hj : j = i
  · simp [hj]
  · simp [hj]

/-- A child has one byte more. -/
def chB (s c : Str) : Bool := decide (c.length = s.length + 1) && decide (c.take s.length = s)
def ch (N : List Str) (s : Str) : List Str := N.filter (chB s)
theorem chB_iff {s c : Str} : chB s c = true ↔ c.length = s.length + 1 ∧ c.take s.length = s := by simp [chB]
theorem ch_mem {N : List Str} {s c : Str} : c ∈ ch N s ↔ c ∈ N ∧ chB s c = true := by simp [ch]
theorem chB_eq {s c : Str} (h : chB s c = true) : c = s ++ [c.getLastD 0] := by
  obtain ⟨h1, h2⟩ := chB_iff.1 h
  have hne : c ≠ [] := fun h5 => by rw [h5] at h1; simp at h1
  have h3 := List.dropLast_concat_getLast hne
  have h4 : c.dropLast = s := by
    rw [List.dropLast_eq_take, h1]
    simpa using h2
  rw [h4] at h3
  conv => lhs; rw [← h3]
  rw [List.getLastD_eq_getLast?, List.getLast?_eq_some_getLast hne]
  rfl
theorem chB_drop {x : Str} (h : x ≠ []) : chB x.dropLast x = true := by
  have := List.length_pos_iff.2 h
  rw [chB_iff, List.length_dropLast, List.dropLast_eq_take]
  exact ⟨by omega, rfl⟩
structure Tri (N : List Str) : Prop where
  pw : N.Pairwise nlt
  root : [] ∈ N
  up : ∀ x ∈ N, x ≠ [] → x.dropLast ∈ N
theorem nodesK_tri {K : List Str} (hK : okKeys K = true) : Tri (nodesK K) := by
  obtain ⟨h1, h2⟩ := nodesK_ok hK
  refine ⟨h1, (h2 _).2 (.inl rfl), fun x hx hne => (h2 _).2 ?_⟩
  rcases (h2 x).1 hx with h | ⟨s, hs, h⟩
  · exact absurd h hne
  · refine .inr ⟨s, hs, ?_⟩
    conv => lhs; rw [h]
    rw [List.dropLast_eq_take, List.take_take]
    congr 1
    have h5 := congrArg List.length h
    rw [List.length_take] at h5
    simp only [List.length_take, List.length_dropLast]
    omega
theorem nodesK_len {K : List Str} (hK : okKeys K = true) : ∀ x ∈ nodesK K, x.length ≤ 12 := fun x hx => by
  rcases ((nodesK_ok hK).2 x).1 hx with h | ⟨s, hs, h⟩
  · rw [h]; simp
  · have := (okKey_len ((okKeys_all hK).1 s hs)).2
    have h5 := congrArg List.length h
    rw [List.length_take] at h5
    omega
theorem Tri.head {N : List Str} (h : Tri N) : ∃ R, N = [] :: R ∧ R.Pairwise nlt ∧ ∀ x ∈ R, x ≠ [] := by
  obtain ⟨h1, h2, h3⟩ := h
  cases N with
  | nil => cases h2
  | cons a R =>
    rw [List.pairwise_cons] at h1
    have ha : a = [] := by
      rcases List.mem_cons.1 h2 with h5 | h5
      · exact h5.symm
      · rcases h1.1 _ h5 with h7 | ⟨h7, h8⟩
        · simp at h7
        · exact List.eq_nil_of_length_eq_zero (by simpa using h7)
    subst ha
    refine ⟨R, rfl, h1.2, fun x hx h5 => ?_⟩
    subst h5
    exact nlt_irr _ (h1.1 _ hx)
theorem ch_nlt {N : List Str} {a b x y : Str} (h : nlt a b) (hx : x ∈ ch N a) (hy : y ∈ ch N b) : nlt x y := by
  have hx := (ch_mem.1 hx).2
  have hy := (ch_mem.1 hy).2
  have h1 := (chB_iff.1 hx).1
  have h2 := (chB_iff.1 hy).1
  rcases h with h | ⟨h, h3⟩
  · left; omega
  · refine .inr ⟨by omega, ?_⟩
    rw [chB_eq hx, chB_eq hy, bl_app h, h3]
    rfl
theorem Tri.bfs {N : List Str} (h : Tri N) : N = [] :: N.flatMap (ch N) := by
  obtain ⟨R, h1, h2, h3⟩ := h.head
  have : R = N.flatMap (ch N) := by
    refine pw_uniq nlt_asym h2 ?_ fun x => ?_
    · rw [List.pairwise_flatMap]
      exact ⟨fun a _ => h.pw.filter _, h.pw.imp fun {a b} hab x hx y hy => ch_nlt hab hx hy⟩
    · rw [List.mem_flatMap]
      constructor
      · intro hx
        have hxN : x ∈ N := by rw [h1]; exact List.mem_cons_of_mem _ hx
        exact ⟨x.dropLast, h.up x hxN (h3 x hx), ch_mem.2 ⟨hxN, chB_drop (h3 x hx)⟩⟩
      · rintro ⟨s, hs, hx⟩
        obtain ⟨h5, h6⟩ := ch_mem.1 hx
        rw [h1] at h5
        rcases List.mem_cons.1 h5 with h7 | h7
        · have := (chB_iff.1 h6).1
          rw [h7] at this
          simp at this
        · exact h7
  rw [← this]
  exact h1
def shC (N : List Str) (s : Str) : List Bool := List.replicate (ch N s).length true ++ [false]
def shapeL (N : List Str) : List Bool := N.flatMap (shC N)
def labL (N : List Str) : Str := (N.drop 1).map (·.getLastD 0)
def endL (K N : List Str) : List Bool := N.map fun s => decide (s ∈ K)
theorem shape_len {N : List Str} : ∀ L : List Str, (L.flatMap (shC N)).length = (L.flatMap (ch N)).length + L.length
  | [] => rfl
  | s :: L => by
    rw [List.flatMap_cons, List.flatMap_cons, List.length_append, List.length_append, shape_len L]
    simp [shC]
    omega
theorem Tri.shape {N : List Str} (h : Tri N) : (shapeL N).length + 1 = 2 * N.length := by
  have h1 := congrArg List.length h.bfs
  rw [List.length_cons] at h1
  unfold shapeL
  rw [shape_len]
  omega
theorem lab_get {N : List Str} {p : Nat} (h1 : 1 ≤ p) (h2 : p < N.length) : (labL N).getD (p - 1) 0 = (N.getD p []).getLastD 0 := by
  unfold labL
  simp only [List.getD_eq_getElem?_getD, List.getElem?_map, List.getElem?_drop]
  rw [show 1 + (p - 1) = p by omega, List.getElem?_eq_getElem h2]
  rfl
/-- Reading the shape. -/
def stp (cap : Bool) (lab : Str) (st : Option (List Str × Nat)) (b : Bool) : Option (List Str × Nat) :=
  match st with
  | none => none
  | some (out, a) => if out.length ≤ a then none else if b = false then some (out, a + 1) else if lab.length < out.length ∨ (cap = true ∧ (out.getD a []).length = 12) then none else some (out ++ [out.getD a [] ++ [lab.getD (out.length - 1) 0]], a)
def decT (cap : Bool) (lab : Str) (bits : List Bool) : Option (List Str × Nat) := bits.foldl (stp cap lab) (some ([[]], 0))
theorem stp_none {cap : Bool} {lab : Str} : ∀ bits : List Bool, bits.foldl (stp cap lab) none = none
  | [] => rfl
  | b :: bits => stp_none bits
theorem stp_grow {cap : Bool} {lab : Str} : ∀ {bits : List Bool} {out : List Str} {a : Nat} {P : List Str} {a' : Nat}, bits.foldl (stp cap lab) (some (out, a)) = some (P, a') → ∃ X, P = out ++ X
  | [], out, a, P, a', h => by
    injection h with h
    injection h with h1 h2
    exact ⟨[], by rw [h1]; simp⟩
  | b :: bits, out, a, P, a', h => by
    rw [List.foldl_cons] at h
    by_cases h1 : out.length ≤ a
    · rw [show stp cap lab (some (out, a)) b = none by simp [stp, h1], stp_none] at h
      cases h
    by_cases h2 : b = false
    · rw [show stp cap lab (some (out, a)) b = some (out, a + 1) by simp [stp, h1, h2]] at h
      exact stp_grow h
    by_cases h3 : lab.length < out.length ∨ (cap = true ∧ (out.getD a []).length = 12)
    · rw [show stp cap lab (some (out, a)) b = none by simp only [stp]; rw [if_neg h1, if_neg h2, if_pos h3], stp_none] at h
      cases h
    rw [show stp cap lab (some (out, a)) b = some (out ++ [out.getD a [] ++ [lab.getD (out.length - 1) 0]], a) by simp only [stp]; rw [if_neg h1, if_neg h2, if_neg h3]] at h
    obtain ⟨X, hX⟩ := stp_grow h
    exact ⟨_, by rw [hX, List.append_assoc]⟩
theorem stp_cap {lab : Str} : ∀ {bits : List Bool} {st : Option (List Str × Nat)} {x : List Str × Nat}, bits.foldl (stp true lab) st = some x → bits.foldl (stp false lab) st = some x
  | [], st, x, h => h
  | b :: bits, none, x, h => by rw [stp_none] at h; cases h
  | b :: bits, some (out, a), x, h => by
    rw [List.foldl_cons] at h ⊢
    have key : stp true lab (some (out, a)) b = none ∨ stp true lab (some (out, a)) b = stp false lab (some (out, a)) b := by
      simp only [stp]
      by_cases h1 : out.length ≤ a
      · left; rw [if_pos h1]
      rw [if_neg h1, if_neg h1]
      by_cases h2 : b = false
      · right; rw [if_pos h2, if_pos h2]
      rw [if_neg h2, if_neg h2]
      by_cases h3 : lab.length < out.length
      · left; rw [if_pos (.inl h3)]
      by_cases h4 : (out.getD a []).length = 12
      · left; rw [if_pos (.inr ⟨trivial, h4⟩)]
      · right
        rw [if_neg (fun h5 => h5.elim h3 fun h7 => h4 h7.2), if_neg (fun h5 => h5.elim h3 fun h7 => by cases h7.1)]
    rcases key with h1 | h1
    · rw [h1, stp_none] at h
      cases h
    · rw [h1] at h
      exact stp_cap h
theorem stp_uncap {lab : Str} : ∀ {bits : List Bool} {out : List Str} {a : Nat} {P : List Str} {a' : Nat}, bits.foldl (stp false lab) (some (out, a)) = some (P, a') → (∀ x ∈ P, x.length ≤ 12) → bits.foldl (stp true lab) (some (out, a)) = some (P, a')
  | [], out, a, P, a', h, _ => h
  | b :: bits, out, a, P, a', h, hP => by
    rw [List.foldl_cons] at h ⊢
    by_cases h1 : out.length ≤ a
    · rw [show stp false lab (some (out, a)) b = none by simp [stp, h1], stp_none] at h
      cases h
    by_cases h2 : b = false
    · rw [show stp false lab (some (out, a)) b = some (out, a + 1) by simp [stp, h1, h2]] at h
      rw [show stp true lab (some (out, a)) b = some (out, a + 1) by simp [stp, h1, h2]]
      exact stp_uncap h hP
    by_cases h3 : lab.length < out.length
    · rw [show stp false lab (some (out, a)) b = none by simp only [stp]; rw [if_neg h1, if_neg h2, if_pos (.inl h3)], stp_none] at h
      cases h
    have hf : stp false lab (some (out, a)) b = some (out ++ [out.getD a [] ++ [lab.getD (out.length - 1) 0]], a) := by
      simp only [stp]
      rw [if_neg h1, if_neg h2, if_neg (fun h5 => h5.elim h3 fun h7 => by cases h7.1)]
    rw [hf] at h
    obtain ⟨X, hX⟩ := stp_grow h
    have h4 : (out.getD a []).length ≠ 12 := fun h5 => by
      have := hP (out.getD a [] ++ [lab.getD (out.length - 1) 0]) (by rw [hX]; simp)
      rw [List.length_append, h5] at this
      simp at this
    rw [show stp true lab (some (out, a)) b = some (out ++ [out.getD a [] ++ [lab.getD (out.length - 1) 0]], a) by
      simp only [stp]
      rw [if_neg h1, if_neg h2, if_neg (fun h5 => h5.elim h3 fun h7 => h4 h7.2)]]
    exact stp_uncap h hP
theorem dec_rep {cap : Bool} {N F R : List Str} {k : Nat} {s : Str} (hk : k < F.length) (hF : F.getD k [] = s) (hl : ∀ x ∈ N, x.length ≤ 12) : ∀ {C2 C1 : List Str}, N = F ++ (C1 ++ C2) ++ R → (∀ c ∈ C2, chB s c = true) → (List.replicate C2.length true).foldl (stp cap (labL N)) (some (F ++ C1, k)) = some (F ++ (C1 ++ C2), k)
  | [], C1, _, _ => by simp
  | c :: C2, C1, hN, hc => by
    have hcs := hc c (by simp)
    have hcN : c ∈ N := by rw [hN]; simp
    have hcl := hl c hcN
    have hcl2 := (chB_iff.1 hcs).1
    have hlen : (F ++ C1).length + 1 ≤ N.length := by rw [hN]; simp; omega
    have hlab : (labL N).length = N.length - 1 := by simp [labL]
    have hp : N.getD (F ++ C1).length [] = c := by
      rw [hN, List.getD_eq_getElem?_getD]
      rw [show F ++ (C1 ++ c :: C2) ++ R = (F ++ C1) ++ (c :: (C2 ++ R)) by simp, List.getElem?_append_right (Nat.le_refl _)]
      simp
    have hg : (F ++ C1).getD k [] = s := by
      rw [← hF]
      simp only [List.getD_eq_getElem?_getD]
      rw [List.getElem?_append_left hk]
    have hF1 : (F ++ C1).length = F.length + C1.length := List.length_append
    have hst : stp cap (labL N) (some (F ++ C1, k)) true = some (F ++ (C1 ++ [c]), k) := by
      simp only [stp]
      rw [if_neg (by omega), if_neg (by simp), hg, if_neg (by omega), lab_get (by omega) (by omega), hp, ← chB_eq hcs]
      simp
    rw [List.length_cons, List.replicate_succ, List.foldl_cons, hst, dec_rep (R := R) hk hF hl (by rw [hN]; simp) fun x hx => hc x (by simp [hx])]
    simp
theorem dec_shape {N : List Str} (h : Tri N) (hl : ∀ x ∈ N, x.length ≤ 12) (cap : Bool) : decT cap (labL N) (shapeL N) = some (N, N.length) := by
  have key : ∀ k, k ≤ N.length → ((N.take k).flatMap (shC N)).foldl (stp cap (labL N)) (some ([[]], 0)) = some ([] :: (N.take k).flatMap (ch N), k) := by
    intro k
    induction k with
    | zero => intro _; rfl
    | succ k ih =>
      intro hk
      have hk2 : k < N.length := by omega
      have htk : N.take (k + 1) = N.take k ++ [N[k]] := by
        rw [List.take_add_one, List.getElem?_eq_getElem hk2, Option.toList_some]
      have hsp : N = ([] :: (N.take k).flatMap (ch N)) ++ ([] ++ ch N N[k]) ++ (N.drop (k + 1)).flatMap (ch N) := by
        conv => lhs; rw [h.bfs]
        have : N = N.take k ++ (N[k] :: N.drop (k + 1)) := by
          rw [List.getElem_cons_drop, List.take_append_drop]
        conv => lhs; arg 2; arg 2; rw [this]
        rw [List.flatMap_append, List.flatMap_cons]
        simp
      have hkF : k < ([] :: (N.take k).flatMap (ch N)).length := by
        rcases Nat.lt_or_ge k ([] :: (N.take k).flatMap (ch N)).length with h5 | h5
        · exact h5
        · exfalso
          generalize hF : [] :: (N.take k).flatMap (ch N) = F at hsp h5
          have hsp2 : N = F ++ (N.drop k).flatMap (ch N) := by
            conv => lhs; rw [hsp]
            rw [← List.getElem_cons_drop hk2, List.flatMap_cons]
            simp
          have hj : F.length < N.length := by omega
          have hm : N[F.length] ∈ (N.drop k).flatMap (ch N) := by
            have h7 : N[F.length]? = ((N.drop k).flatMap (ch N))[0]? := by
              conv => lhs; rw [hsp2]
              rw [List.getElem?_append_right (Nat.le_refl _)]
              simp
            rw [List.getElem?_eq_getElem hj] at h7
            exact List.mem_of_getElem? h7.symm
          obtain ⟨s, hs, hc⟩ := List.mem_flatMap.1 hm
          obtain ⟨i, hi, rfl⟩ := List.mem_iff_getElem.1 hs
          rw [List.length_drop] at hi
          rw [List.getElem_drop] at hc
          have hcl := (chB_iff.1 (ch_mem.1 hc).2).1
          rcases Nat.lt_or_ge F.length (k + i) with h8 | h8
          · rcases List.pairwise_iff_getElem.1 h.pw F.length (k + i) hj (by omega) h8 with h9 | h9 <;> omega
          · have : N[F.length] = N[k + i] := by congr 1; omega
            rw [this] at hcl
            omega
      have hFk : ([] :: (N.take k).flatMap (ch N)).getD k [] = N[k] := by
        have h5 : N[k]? = ([] :: (N.take k).flatMap (ch N))[k]? := by
          conv => lhs; rw [hsp]
          rw [List.append_assoc, List.getElem?_append_left hkF]
        rw [List.getD_eq_getElem?_getD, ← h5, List.getElem?_eq_getElem hk2]
        rfl
      have hrep := dec_rep (cap := cap) hkF hFk hl hsp fun c hc => (ch_mem.1 hc).2
      rw [htk, List.flatMap_append, List.flatMap_append, List.foldl_append, ih (by omega)]
      simp only [List.flatMap_cons, List.flatMap_nil, List.append_nil, shC]
      rw [List.foldl_append]
      simp only [List.append_nil, List.nil_append] at hrep
      rw [hrep]
      simp only [List.foldl_cons, List.foldl_nil, stp]
      have hlen2 : ¬ ([] :: (N.take k).flatMap (ch N) ++ ch N N[k]).length ≤ k := by rw [List.length_append]; omega
      rw [if_neg hlen2]
      simp
  have := key N.length (Nat.le_refl _)
  rw [List.take_length, ← h.bfs] at this
  exact this

def sameB (a b : Bt) : Bool := decide (a.size = b.size) && decide (lI a.words = lI b.words)

def atB (b : Bt) (i : Nat) : Bool := (numW (lI b.words)).testBit i
def btL (b : Bt) : List Bool := (List.range b.size.toNat).map (atB b)
def mdB (l : List Bool) : Bt := ⟨(l.length : Int), some (wordsN (bitN l l.length) ((l.length + 15) / 16))⟩
theorem bitN_lt {l : List Bool} {n : Nat} : bitN l n < 2 ^ n := by
  refine Nat.lt_pow_two_of_testBit _ fun i hi => ?_
  unfold bitN
  rw [mkN_bit]
  simp
  omega
theorem mdB_at {l : List Bool} {i : Nat} (hi : i < l.length) : atB (mdB l) i = l.getD i false := by
  unfold atB mdB
  show (numW (wordsN _ _)).testBit i = _
  rw [numW_wordsN (Nat.lt_of_lt_of_le bitN_lt (Nat.pow_le_pow_right (by decide) (by omega)))]
  unfold bitN
  rw [mkN_bit, decide_eq_true hi]
  simp
theorem btL_md {l : List Bool} : btL (mdB l) = l := by
  unfold btL
  refine List.ext_getElem (by simp [mdB]) fun i h1 h2 => ?_
  rw [List.getElem_map, List.getElem_range, mdB_at h2]
  simp [h2]
theorem sameB_iff {a b : Bt} : sameB a b = true ↔ a.size = b.size ∧ lI a.words = lI b.words := by simp [sameB]
theorem sameB_at {a b : Bt} (h : sameB a b = true) {i : Nat} : atB b i = atB a i := by
  obtain ⟨_, h2⟩ := sameB_iff.1 h
  unfold atB
  rw [h2]
theorem sameB_btL {a b : Bt} (h : sameB a b = true) : btL b = btL a := by
  obtain ⟨h1, h2⟩ := sameB_iff.1 h
  unfold btL atB
  rw [h1, h2]
structure Tr where
  sh : Bt
  en : Bt
  lab : Str
def tK (K : List Str) : Tr := ⟨mdB (shapeL (nodesK K)), mdB (endL K (nodesK K)), labL (nodesK K)⟩
def sameT (a b : Tr) : Bool := sameB a.sh b.sh && (sameB a.en b.en && decide (a.lab = b.lab))
theorem sameT_iff {a b : Tr} : sameT a b = true ↔ sameB a.sh b.sh = true ∧ sameB a.en b.en = true ∧ a.lab = b.lab := by simp [sameT]
def okT0 (t : Tr) : Bool := (okBt t.sh && okBt t.en) && (decide (t.sh.size = 2 * t.en.size - 1) && decide ((t.lab.length : Int) = t.en.size - 1))
theorem okT0_in {t : Tr} (h : okT0 t = true) : okBt t.sh = true ∧ okBt t.en = true ∧ t.sh.size = 2 * t.en.size - 1 ∧ (t.lab.length : Int) = t.en.size - 1 := by
  simp only [okT0, Bool.and_eq_true, decide_eq_true_eq] at h
  exact ⟨h.1.1, h.1.2, h.2.1, h.2.2⟩
/-- The nodes whose bit is on. -/
def endsTo (P : List Str) (g : Nat → Bool) (k : Nat) : List Str := ((List.range k).filter g).map fun i => P.getD i []
theorem endsTo_succ {P : List Str} {g : Nat → Bool} {k : Nat} : endsTo P g (k + 1) = if g k then endsTo P g k ++ [P.getD k []] else endsTo P g k := by
  unfold endsTo
  rw [List.range_succ, List.filter_append, List.map_append]
  cases h : g k <;> simp [h]
theorem endsTo_filter {P : List Str} {g : Nat → Bool} {p : Str → Bool} : ∀ k, k ≤ P.length → (∀ i, i < k → g i = p (P.getD i [])) → endsTo P g k = (P.take k).filter p
  | 0, _, _ => by simp [endsTo]
  | k + 1, hk, h => by
    have hgk : P.getD k [] = P[k] := by simp [show k < P.length by omega]
    rw [endsTo_succ, endsTo_filter k (by omega) fun i hi => h i (by omega), h k (by omega), List.take_add_one, List.getElem?_eq_getElem (by omega), List.filter_append, hgk]
    cases hp : p P[k] <;> simp [hp]
/-- Put into a sorted list. -/
def putS : List Str → Str → List Str
  | [], s => [s]
  | x :: l, s => if Op.bytesLess x s then x :: putS l s else if x = s then x :: l else s :: x :: l
theorem putS_mem {s x : Str} : ∀ {l : List Str}, x ∈ putS l s ↔ x ∈ l ∨ x = s
  | [] => by simp [putS]
  | y :: l => by
    unfold putS
    split
    · rw [List.mem_cons, putS_mem, List.mem_cons, or_assoc]
    · split
      · rename_i h
        subst h
        simp
        exact fun h => .inl h
      · simp only [List.mem_cons]
        constructor
        · rintro (h | h | h)
          · exact .inr h
          · exact .inl (.inl h)
          · exact .inl (.inr h)
        · rintro ((h | h) | h)
          · exact .inr (.inl h)
          · exact .inr (.inr h)
          · exact .inl h
theorem putS_pw {s : Str} : ∀ {l : List Str}, l.Pairwise slt → (putS l s).Pairwise slt
  | [], _ => by simp [putS]
  | y :: l, h => by
    have h0 := h
    rw [List.pairwise_cons] at h
    unfold putS
    split
    · rename_i h1
      refine List.pairwise_cons.2 ⟨fun x hx => ?_, putS_pw h.2⟩
      rcases putS_mem.1 hx with h5 | h5
      · exact h.1 x h5
      · rw [h5]; exact h1
    · rename_i h1
      split
      · exact h0
      · rename_i h2
        have hsy : slt s y := by
          rcases bl_tri y s with h5 | h5 | h5
          · exact absurd h5 h1
          · exact absurd h5 h2
          · exact h5
        refine List.pairwise_cons.2 ⟨fun x hx => ?_, h0⟩
        rcases List.mem_cons.1 hx with h5 | h5
        · rw [h5]; exact hsy
        · exact bl_trans hsy (h.1 x h5)
theorem putL_pw : ∀ {l a : List Str}, a.Pairwise slt → (l.foldl putS a).Pairwise slt
  | [], a, h => h
  | x :: l, a, h => putL_pw (l := l) (putS_pw h)
theorem putL_mem {x : Str} : ∀ {l a : List Str}, x ∈ l.foldl putS a ↔ x ∈ a ∨ x ∈ l
  | [], a => by simp
  | y :: l, a => by
    rw [List.foldl_cons, putL_mem, putS_mem, List.mem_cons, or_assoc]
theorem putS_len {s : Str} : ∀ {l : List Str}, (putS l s).length ≤ l.length + 1
  | [] => by simp [putS]
  | y :: l => by
    unfold putS
    have := putS_len (s := s) (l := l)
    split
    · simp; omega
    · split <;> simp
/-- Where a string is put. -/
theorem putS_at {s : Str} : ∀ {l : List Str} {i : Nat}, i ≤ l.length → (∀ j, j < i → Op.bytesLess (l.getD j []) s = true) → (i < l.length → Op.bytesLess (l.getD i []) s = false) → putS l s = if i < l.length ∧ l.getD i [] = s then l else l.take i ++ [s] ++ l.drop i
  | [], i, hi, _, _ => by
    have : i = 0 := by simpa using hi
    subst this
    rfl
  | y :: l, 0, _, _, h => by
    have h1 := h (by simp)
    simp only [List.getD_cons_zero] at h1
    unfold putS
    rw [if_neg (by rw [h1]; simp)]
    simp
  | y :: l, i + 1, hi, h, h2 => by
    have h1 := h 0 (by omega)
    simp only [List.getD_cons_zero] at h1
    unfold putS
    rw [if_pos h1, putS_at (i := i) (by simpa using hi) (fun j hj => by simpa using h (j + 1) (by omega)) (fun hl => by simpa using h2 (by simpa using hl))]
    simp only [List.length_cons, List.getD_cons_succ, List.take_succ_cons, List.drop_succ_cons]
    by_cases h5 : i < l.length ∧ l.getD i [] = s
    · rw [if_pos h5, if_pos ⟨by omega, h5.2⟩]
    · rw [if_neg h5, if_neg (fun h7 => h5 ⟨by omega, h7.2⟩)]
      simp
def trKs (P : List Str) (t : Tr) : List Str := (endsTo P (atB t.en) P.length).foldl putS []
/-- The keys of a trie. -/
def trV (t : Tr) : Option (List Str) := if okT0 t then match decT false t.lab (btL t.sh) with
    | some (P, _) => if (P.length : Int) = t.en.size then if okKeys (trKs P t) && sameT (tK (trKs P t)) t then some (trKs P t) else none else none
    | none => none
  else none
structure TrI (t : Tr) (K : List Str) : Prop where
  ok0 : okT0 t = true
  keys : okKeys K = true
  same : sameT (tK K) t = true
theorem trV_some {t : Tr} {K : List Str} (h : trV t = some K) : TrI t K := by
  unfold trV at h
  split at h
  · rename_i h0
    split at h
    · split at h
      · split at h
        · rename_i h1
          rw [Bool.and_eq_true] at h1
          injection h with h
          rw [h] at h1
          exact ⟨h0, h1.1, h1.2⟩
        · cases h
      · cases h
    · cases h
  · cases h
theorem TrI.lab {t : Tr} {K : List Str} (h : TrI t K) : t.lab = labL (nodesK K) := (sameT_iff.1 h.same).2.2.symm
theorem TrI.shape {t : Tr} {K : List Str} (h : TrI t K) : btL t.sh = shapeL (nodesK K) := by
  rw [sameB_btL (sameT_iff.1 h.same).1]
  exact btL_md
theorem TrI.size {t : Tr} {K : List Str} (h : TrI t K) : t.en.size = ((nodesK K).length : Int) := by
  rw [← (sameB_iff.1 (sameT_iff.1 h.same).2.1).1]
  show ((endL K (nodesK K)).length : Int) = _
  simp [endL]
theorem TrI.at_ {t : Tr} {K : List Str} (h : TrI t K) {i : Nat} (hi : i < (nodesK K).length) : atB t.en i = decide ((nodesK K).getD i [] ∈ K) := by
  rw [sameB_at (sameT_iff.1 h.same).2.1]
  show atB (mdB (endL K (nodesK K))) i = _
  rw [mdB_at (by simpa [endL] using hi)]
  simp [endL, hi]
theorem TrI.dec {t : Tr} {K : List Str} (h : TrI t K) (cap : Bool) : decT cap t.lab (btL t.sh) = some (nodesK K, (nodesK K).length) := by
  rw [h.lab, h.shape]
  exact dec_shape (nodesK_tri h.keys) (nodesK_len h.keys) cap
theorem key_node {K : List Str} (hK : okKeys K = true) {s : Str} (hs : s ∈ K) : s ∈ nodesK K := ((nodesK_ok hK).2 s).2 (.inr ⟨s, hs, by simp⟩)
theorem TrI.ends {t : Tr} {K : List Str} (h : TrI t K) : endsTo (nodesK K) (atB t.en) (nodesK K).length = (nodesK K).filter fun s => decide (s ∈ K) := by
  rw [endsTo_filter (p := fun s => decide (s ∈ K)) _ (Nat.le_refl _) fun i hi => h.at_ hi, List.take_length]
theorem ends_mem {K : List Str} (hK : okKeys K = true) {x : Str} : x ∈ (nodesK K).filter (fun s => decide (s ∈ K)) ↔ x ∈ K := by
  rw [List.mem_filter, decide_eq_true_eq]
  exact ⟨fun h => h.2, fun h => ⟨key_node hK h, h⟩⟩
theorem trV_of {t : Tr} {K : List Str} (h : TrI t K) : trV t = some K := by
  have hk : trKs (nodesK K) t = K := by
    unfold trKs
    rw [h.ends]
    refine pw_uniq slt_asym (putL_pw (by simp)) (okKeys_all h.keys).2.1 fun x => ?_
    rw [putL_mem]
    simp only [List.not_mem_nil, false_or]
    exact ends_mem h.keys
  unfold trV
  rw [if_pos h.ok0, h.dec false]
  simp only
  rw [if_pos h.size.symm, hk, h.keys, h.same]
  rfl
/-- What the other program reads, the ends sorted. -/
theorem trV_sort {t : Tr} {P : List Str} {a : Nat} (h0 : okT0 t = true) (hd : decT true t.lab (btL t.sh) = some (P, a)) {L : List Str} (hp : L.Perm (endsTo P (fun i => decide ((i : Int) < t.en.size) && atB t.en i) P.length)) (hs : L.Pairwise fun x y => Op.bytesLess y x = false) :
    trV t = if ((P.length : Int) = t.en.size ∧ okKeys L = true) ∧ sameT (tK L) t = true then some L else none := by
  by_cases hc : ((P.length : Int) = t.en.size ∧ okKeys L = true) ∧ sameT (tK L) t = true
  · rw [if_pos hc]
    exact trV_of ⟨h0, hc.1.2, hc.2⟩
  · rw [if_neg hc]
    cases hv : trV t with
    | none => rfl
    | some K =>
      exfalso
      have h := trV_some hv
      have h1 := h.dec true
      rw [hd] at h1
      injection h1 with h1
      injection h1 with h1 h2
      have hsz := h.size
      rw [← h1] at hsz
      have he : endsTo P (fun i => decide ((i : Int) < t.en.size) && atB t.en i) P.length = (nodesK K).filter fun s => decide (s ∈ K) := by
        rw [← h.ends, h1]
        unfold endsTo
        congr 1
        refine List.filter_congr fun i hi => ?_
        have := List.mem_range.1 hi
        rw [← h1] at this
        rw [decide_eq_true (by omega)]
        rfl
      rw [he] at hp
      have hnd : L.Nodup := (hp.nodup_iff).2 ((pw_nodup nlt_irr (nodesK_ok h.keys).1).filter _)
      have hL : L = K := by
        refine pw_uniq slt_asym (List.Pairwise.imp₂ (fun x y h5 h7 => ?_) hs hnd) (okKeys_all h.keys).2.1 fun x => (hp.mem_iff).trans (ends_mem h.keys)
        rcases bl_tri x y with h8 | h8 | h8
        · exact h8
        · exact absurd h8 h7
        · rw [h8] at h5
          cases h5
      rw [hL] at hc
      exact hc ⟨⟨hsz.symm, h.keys⟩, h.same⟩
theorem trV_bad {t : Tr} (h : okT0 t = false) : trV t = none := by
  unfold trV
  rw [h]
  rfl
theorem trV_none {t : Tr} (h : decT true t.lab (btL t.sh) = none) : trV t = none := by
  cases hv : trV t with
  | none => rfl
  | some K =>
    have := (trV_some hv).dec true
    rw [h] at this
    cases this

theorem cells_keep {h h' : H} {b : Nat} {cs : List AV} (hk : h'[b]? = h[b]?) (hc : h.cells b = some cs) : h'.cells b = some cs := by
  rw [cells_eq, hk, ← cells_eq]
  exact hc

theorem okBt_num {b : Bt} (h : okBt b = true) : lI b.words = wordsN (numW (lI b.words)) (lI b.words).length ∧ 0 ≤ b.size ∧ b.size ≤ 4096 ∧ ((lI b.words).length : Int) = (b.size + 15) / 16 := by
  simp only [okBt, okWords, Bool.and_eq_true, decide_eq_true_eq, List.all_eq_true] at h
  exact ⟨(wordsN_num h.2.2.1).symm, h.1.1, h.1.2, h.2.1⟩

def okCh (c : UInt8) : Bool := decide (32 ≤ (c.toNat : Int)) && decide ((c.toNat : Int) ≤ 125)
def plain (s : Str) : Bool := s.all okCh
def plainV (s : Str) : Bool := plain s && decide ((s.length : Int) ≤ 6000)
/-- The checksum of the first so many. -/
def chk (s : Str) : Nat → Int
  | 0 => 0
  | i + 1 => (chk s i + ((i : Int) + 1) * ((s.getD i 0).toNat : Int)) % 65521
theorem chk_bd (s : Str) : ∀ i, 0 ≤ chk s i ∧ chk s i < 65521
  | 0 => by simp [chk]
  | i + 1 => by
    unfold chk
    omega
def sealT (s : Str) : Str := s ++ 126 :: Lib.decDigits (chk s s.length).toNat
def sealV (s : Str) : AV := if plainV s then .tup [.str (sealT s), .bool true] else .tup [.str [], .bool false]
theorem free_sealV {s : Str} : Free (sealV s) := by
  unfold sealV
  split <;> exact free_tup (free_cons_ free_str (free_cons_ free_bool free_nil_))
theorem plain_take {s : Str} {i : Nat} (hi : i < s.length) : plain (s.take (i + 1)) = (plain (s.take i) && okCh (s.getD i 0)) := by
  unfold plain
  rw [List.take_add_one, List.all_append]
  simp [hi]
theorem plain_no {s : Str} {i : Nat} (hi : i < s.length) (hf : okCh (s.getD i 0) = false) : plain s = false := by
  unfold plain
  rw [List.all_eq_false]
  exact ⟨s.getD i 0, by simp [hi], by rw [hf]; simp⟩
theorem itoa_nn {n : Int} (h : 0 ≤ n) : Lib.itoa n = Lib.decDigits n.toNat := by
  unfold Lib.itoa
  rw [if_neg (by omega)]
theorem dec_len {n : Nat} (h : n < 18446744073709551616) : (Lib.decDigits n).length ≤ 20 := by
  rw [Lib.decDigits_length]
  exact Lib.nDigits_le20 n h
theorem dec_rec {n : Nat} : Lib.decDigits n = if n < 10 then [UInt8.ofNat (48 + n)] else Lib.decDigits (n / 10) ++ [UInt8.ofNat (48 + n % 10)] := by
  rw [Lib.decDigits]
  split <;> rfl
theorem dec_plain : ∀ n : Nat, ∀ c ∈ Lib.decDigits n, 48 ≤ c.toNat ∧ c.toNat ≤ 57 := fun n => by
  induction n using Nat.strongRecOn with
  | _ n ih =>
    rw [dec_rec]
    by_cases hn : n < 10
    · rw [if_pos hn]
      intro c hc
      simp at hc
      subst hc
      simp
      omega
    · rw [if_neg hn]
      intro c hc
      rcases List.mem_append.1 hc with hc | hc
      · exact ih (n / 10) (by omega) c hc
      · simp at hc
        subst hc
        simp
        omega

theorem fits_cons {s : Sh} {ss : List Sh} {zs : List AV} (h : Fits (s :: ss) zs) : ∃ xs ys, zs = xs ++ ys ∧ Fit s xs ∧ Fits ss ys := by
  cases h with
  | cons h hr => exact ⟨_, _, rfl, h, hr⟩
theorem fits_nil {zs : List AV} (h : Fits [] zs) : zs = [] := by cases h; rfl
theorem fit_int {zs : List AV} (h : Fit (.int .i64) zs) : ∃ n : Int, zs = [.int .i64 n] ∧ -9223372036854775808 ≤ n ∧ n ≤ 9223372036854775807 := by
  cases h with
  | int h1 h2 => exact ⟨_, rfl, by simpa [IntKind.min, IntKind.signed, IntKind.bits] using h1, by simpa [IntKind.max, IntKind.signed, IntKind.bits] using h2⟩
theorem fit_str {zs : List AV} (h : Fit .str zs) : ∃ s : Str, zs = [.str s] ∧ s.length ≤ 9223372036854775807 := by
  cases h with
  | str h => exact ⟨_, rfl, h⟩
theorem fit_st {fs : List Sh} {zs : List AV} (h : Fit (.st fs) zs) : Fits fs zs := by
  cases h with
  | st h => exact h
theorem flatMap_eq {α β : Type} {f g : α → List β} : ∀ {l : List α}, (∀ a ∈ l, f a = g a) → l.flatMap f = l.flatMap g
  | [], _ => rfl
  | a :: l, h => by
    rw [List.flatMap_cons, List.flatMap_cons, h a (by simp), flatMap_eq fun b hb => h b (by simp [hb])]
theorem fit_strs {zs : List AV} (h : Fit (.sl .str 1) zs) : ∃ a : Option (List Str), zs = [eS a] := by
  cases h with
  | nil => exact ⟨none, rfl⟩
  | @sl _ _ n g hm hl h =>
    have hg : ∀ i, ∃ s : Str, i < n → g i = [.str s] := fun i => by
      by_cases hi : i < n
      · obtain ⟨s, hs, _⟩ := fit_str (h i hi)
        exact ⟨s, fun _ => hs⟩
      · exact ⟨[], fun h => absurd h hi⟩
    refine ⟨some ((List.range n).map fun i => Classical.choose (hg i)), ?_⟩
    simp only [eS, List.length_map, List.length_range, List.map_map]
    congr 2
    rw [← List.flatMap_singleton' ((List.range n).map _), List.flatMap_map]
    refine flatMap_eq fun i hi => ?_
    rw [Classical.choose_spec (hg i) (List.mem_range.1 hi)]
    rfl
theorem argsFit_cons {s : Sh} {ss : List Sh} {zs : List AV} (h : ArgsFit (s :: ss) zs) : ∃ xs ys, zs = argOf s xs :: ys ∧ Fit s xs ∧ ArgsFit ss ys := by
  cases h with
  | cons h hr => exact ⟨_, _, rfl, h, hr⟩
theorem argsFit_nil {zs : List AV} (h : ArgsFit [] zs) : zs = [] := by cases h; rfl

theorem fit_rows {α : Type} [Inhabited α] {s : Sh} {w : Nat} {f : α → List AV} (hf : ∀ xs, Fit s xs → ∃ a, xs = f a) {zs : List AV} (h : Fit (.sl s w) zs) : zs = [.nils] ∨ ∃ l : List α, zs = [.ro w (l.flatMap f) l.length] := by
  cases h with
  | nil => exact .inl rfl
  | @sl _ _ n g hm hl h =>
    have hg : ∀ i, ∃ a : α, i < n → g i = f a := fun i => by
      by_cases hi : i < n
      · obtain ⟨a, ha⟩ := hf _ (h i hi)
        exact ⟨a, fun _ => ha⟩
      · exact ⟨default, fun h => absurd h hi⟩
    refine .inr ⟨(List.range n).map fun i => Classical.choose (hg i), ?_⟩
    rw [List.length_map, List.length_range, List.flatMap_map]
    congr 2
    exact flatMap_eq fun i hi => Classical.choose_spec (hg i) (List.mem_range.1 hi)
theorem flatMap_one {α : Type} {f : α → AV} : ∀ {l : List α}, l.flatMap (fun a => [f a]) = l.map f
  | [] => rfl
  | a :: l => by rw [List.flatMap_cons, flatMap_one]; rfl
theorem fit_ints {zs : List AV} (h : Fit (.sl (.int .i64) 1) zs) : ∃ a : Option (List Int), zs = [eI a] := by
  rcases fit_rows (f := fun n : Int => [AV.int .i64 n]) (fun xs hx => by obtain ⟨n, hn, _⟩ := fit_int hx; exact ⟨n, hn⟩) h with rfl | ⟨l, rfl⟩
  · exact ⟨none, rfl⟩
  · exact ⟨some l, by rw [flatMap_one]; rfl⟩

def u8s (s : Str) : List AV := s.map fun c => .int .u8 (c.toNat : Int)
theorem asInts_u8s : ∀ s : Str, asInts (u8s s) = some s
  | [] => rfl
  | c :: s => by
    have ih := asInts_u8s s
    unfold u8s at ih ⊢
    rw [List.map_cons, asInts, ih]
    simp
theorem cbs_S1 {h : H} {v : AV} {s : Str} {n : Nat} {B : List Nat} (hs : S1 h 1 v n (u8s s) B) : cbsA h v = some (.str s) := by
  obtain ⟨hl, hs⟩ := hs
  have hn : s.length = n := by
    unfold u8s at hl
    simpa using hl
  rcases hs with ⟨rfl, h0, _⟩ | ⟨b, rfl, _, hc⟩
  · subst h0
    rw [List.eq_nil_of_length_eq_zero hn]
    rfl
  · have hul : (u8s s).length = n := by simpa using hl
    simp only [cbsA, hc, Option.bind_some, if_true]
    rw [if_pos (by omega), List.drop_zero, List.take_of_length_le (by omega), asInts_u8s]
    rfl
def bitC (b : Bool) : UInt8 := if b then 49 else 48
def textB (B n : Nat) : Str := (List.range n).map fun i => bitC (B.testBit i)
theorem textB_len {B n : Nat} : (textB B n).length = n := by simp [textB]
theorem textB_succ {B n : Nat} : u8s (textB B (n + 1)) = u8s (textB B n) ++ [.int .u8 ((bitC (B.testBit n)).toNat : Int)] := by
  simp [u8s, textB, List.range_succ]
def btText (b : Bt) : Str := if b.size = 0 then [45] else textB (numW (lI b.words)) b.size.toNat
theorem btText_len {b : Bt} (h : okBt b = true) : (btText b).length ≤ 4096 := by
  obtain ⟨_, h1, h2, _⟩ := okBt_num h
  unfold btText
  split
  · simp
  · rw [textB_len]
    omega
theorem okBt_hi {b : Bt} (h : okBt b = true) {n i : Nat} (hn : b.size = (n : Int)) (hi : i < n) : i < 16 * (lI b.words).length := by
  obtain ⟨_, h1, h2, h3⟩ := okBt_num h
  omega
def shBits : Sh := .st [.int .i64, .sl (.int .i64) 1]
theorem fit_bits {zs : List AV} (h : Fit shBits zs) : ∃ b, argOf shBits zs = eB b := by
  obtain ⟨x1, y1, rfl, h1, h⟩ := fits_cons (fit_st h)
  obtain ⟨x2, y2, rfl, h2, h⟩ := fits_cons h
  obtain rfl := fits_nil h
  obtain ⟨n, rfl, _⟩ := fit_int h1
  obtain ⟨a, rfl⟩ := fit_ints h2
  exact ⟨⟨n, a⟩, rfl⟩
def imgBV (b : Bt) : AV := if okBt b then sealV ([98, 105, 116, 115, 32] ++ btText b) else .tup [.str [], .bool false]
theorem free_imgBV {b : Bt} : Free (imgBV b) := by
  unfold imgBV
  split
  · exact free_sealV
  · exact free_tup (free_cons_ free_str (free_cons_ free_bool free_nil_))
/-- The loop: what is written so far, behind the box. -/
def TxI (h h' : H) (b : Bt) (v : AV) (i : Nat) : Prop := h.length < h'.length ∧ H.cells h' h.length = some (cB b) ∧ ∃ Bk, S1 h' 1 v i (u8s (textB (numW (lI b.words)) i)) Bk ∧ ∀ c ∈ Bk, h.length < c
theorem TxI.app {h h' : H} {b : Bt} {v : AV} {i : Nat} {x : Int} {by_ : Nat} {pm : Nat → Prop} {Q : AV → H → Prop} (ht : TxI h h' b v i) (hpm : ∀ c, h.length < c → pm c) (hx : x = ((bitC ((numW (lI b.words)).testBit i)).toNat : Int)) (hb : (i + 1) * by_ ≤ 140737488355328)
    (hQ : ∀ v' h'', TxI h h'' b v' (i + 1) → Q v' h'') : apA pm (h' ++ [some (.cells [.int .u8 x])]) Q 1 by_ (some ([.int .u8 x], 1)) v := by
  obtain ⟨t1, t2, Bk, t3, t4⟩ := ht
  have t5 := t3.frame (h' := h' ++ [some (.cells [.int .u8 x])]) fun c hc => List.getElem?_append_left (t3.lt c hc)
  refine t5.app (fun c hc => hpm c (t4 c hc)) rfl (by decide) hb (fun v' h'' B' q1 q2 q3 q4 => hQ v' h'' ⟨?_, ?_, B', ?_, fun c hc => ?_⟩)
  · simp at q2
    omega
  · rw [cells_eq, q3 h.length (by simp; omega) (fun hc => absurd (t4 _ hc) (Nat.lt_irrefl _)), List.getElem?_append_left t1, ← cells_eq]
    exact t2
  · rw [textB_succ, ← hx]
    exact q1
  · rcases q4 c hc with h5 | h5
    · exact t4 c h5
    · simp at h5
      omega

def eU : Option (List UInt8) → AV
  | none => .nils
  | some l => .ro 1 (u8s l) l.length
def lU : Option (List UInt8) → List UInt8
  | none => []
  | some l => l
theorem lenA_eU {l : Option (List UInt8)} : lenA (eU l) = some (.int .i64 (lU l).length) := by cases l <;> rfl
theorem iaddr_eU {l : Option (List UInt8)} {k : IntKind} {n : Int} (h1 : 0 ≤ n) (h2 : n < (lU l).length) : iaddrA 1 (eU l) (.int k n) = some (.rad (u8s (lU l)) n.toNat) := by
  cases l with
  | none => simp [lU] at h2; omega
  | some l => exact (iaddrA_ro h1 h2).trans (by simp [lU])
theorem get_U {l : List UInt8} {i : Nat} (hi : i < l.length) : (u8s l)[i]? = some (.int .u8 ((l.getD i 0).toNat : Int)) := by simp [u8s, hi]
theorem one_eU {l : Option (List UInt8)} : one (eU l) = true := by cases l <;> rfl
theorem cellsOf_eU {l : Option (List UInt8)} : cellsOf (eU l) = [eU l] := by cases l <;> rfl
theorem free_eU {l : Option (List UInt8)} : Free (eU l) := by
  cases l with
  | none => exact free_nils
  | some l => exact free_ro (free_map_ fun _ => free_int)
theorem ok_eU {l : Option (List UInt8)} (h : OkV (eU l)) : (lU l).length ≤ 9223372036854775807 := by
  cases l with
  | none => simp [lU]
  | some l => exact h.ro.1
attribute [push_cast] lenA_eU iaddr_eU get_U one_eU cellsOf_eU
/-- The cursor in block b: what it reads, and how far it may be. -/
def CurI (h : H) (b : Nat) (c : Option (List UInt8)) (K : Nat) : Prop := ∃ (at_ : Nat) (sd : Int), h.cells b = some [eU c, .int .i64 at_, .int .u64 sd] ∧ at_ ≤ K
/-- Nothing else is touched. -/
def CurS (h h' : H) (b : Nat) (c : Option (List UInt8)) (K : Nat) : Prop := h'.length = h.length ∧ (∀ b', b' ≠ b → h'[b']? = h[b']?) ∧ CurI h' b c K
theorem CurI.lt {h : H} {b K : Nat} {c : Option (List UInt8)} (hc : CurI h b c K) : b < h.length := by
  obtain ⟨a, s, h1, _⟩ := hc
  exact cells_lt h1
theorem CurI.frame {h h' : H} {b K : Nat} {c : Option (List UInt8)} (hc : CurI h b c K) (hk : h'[b]? = h[b]?) : CurI h' b c K := by
  obtain ⟨a, s, h1, h2⟩ := hc
  exact ⟨a, s, by rw [cells_eq, hk, ← cells_eq]; exact h1, h2⟩
theorem CurI.mono {h : H} {b K K' : Nat} {c : Option (List UInt8)} (hc : CurI h b c K) (hk : K ≤ K') : CurI h b c K' := by
  obtain ⟨a, s, h1, h2⟩ := hc
  exact ⟨a, s, h1, by omega⟩
theorem and255 (x : Int) : 0 ≤ bitsI .and .u64 x 255 ∧ bitsI .and .u64 x 255 ≤ 255 := by
  have h1 : (BitVec.ofInt 64 x &&& BitVec.ofInt 64 255).toNat ≤ 255 := by
    rw [BitVec.toNat_and]
    exact Nat.le_trans Nat.and_le_right (by decide)
  have h2 : bitsI .and .u64 x 255 = ((BitVec.ofInt 64 x &&& BitVec.ofInt 64 255).toNat : Int) := by
    show IntKind.u64.wrap ((BitVec.ofInt 64 x &&& BitVec.ofInt 64 255).toNat : Int) = _
    rw [IntKind.wrap_u64]
    omega
  rw [h2]
  omega
theorem wrap_and255 (x : Int) : IntKind.i64.wrap (bitsI .and .u64 x 255) = bitsI .and .u64 x 255 := wrap_ok (by have := and255 x; omega) (by have := and255 x; omega)
theorem cells_wr {h : H} {b : Nat} (hb : b < h.length) (cs : List AV) : H.cells (wr h b cs) b = some cs := by
  rw [cells_eq]
  unfold wr
  rw [List.getElem?_set_self hb]
  rfl
theorem wr_wr {h : H} {b : Nat} (cs cs' : List AV) : wr (wr h b cs) b cs' = wr h b cs' := by
  unfold wr
  rw [List.set_set]
/-- The text that is drawn, so far: behind the cursor. -/
def PlI (h0 h' : H) (b : Nat) (c : Option (List UInt8)) (K : Nat) (v : AV) (s : Str) : Prop :=
  h0.length ≤ h'.length ∧ b < h0.length ∧ CurI h' b c K ∧ ∃ B, S1 h' 1 v s.length (u8s s) B ∧ ∀ x ∈ B, h0.length ≤ x
theorem PlI.step {h0 h' h2 : H} {b K K' : Nat} {c : Option (List UInt8)} {v : AV} {s : Str} (hp : PlI h0 h' b c K v s) (hs : CurS h' h2 b c K') : PlI h0 h2 b c K' v s := by
  obtain ⟨p1, p2, _, B, p3, p4⟩ := hp
  obtain ⟨s1, s2, s3⟩ := hs
  exact ⟨by omega, p2, s3, B, p3.frame fun x hx => s2 x (fun he => by have := p4 x hx; omega), p4⟩
theorem PlI.app {h0 h' : H} {b K by_ : Nat} {c : Option (List UInt8)} {v : AV} {s : Str} {x : Int} {ch : UInt8} {pm : Nat → Prop} {Q : AV → H → Prop} (hp : PlI h0 h' b c K v s) (hpm : ∀ x, h0.length ≤ x → pm x) (hx : x = (ch.toNat : Int)) (hb : (s.length + 1) * by_ ≤ 140737488355328)
    (hQ : ∀ v' h'', PlI h0 h'' b c K v' (s ++ [ch]) → Q v' h'') : apA pm (h' ++ [some (.cells [.int .u8 x])]) Q 1 by_ (some ([.int .u8 x], 1)) v := by
  obtain ⟨p1, p2, p3, B, p4, p5⟩ := hp
  have p6 := p4.frame (h' := h' ++ [some (.cells [.int .u8 x])]) fun y hy => List.getElem?_append_left (p4.lt y hy)
  refine p6.app (fun y hy => hpm y (p5 y hy)) rfl (by decide) hb (fun v' h'' B' q1 q2 q3 q4 => hQ v' h'' ⟨?_, p2, p3.frame ?_, B', ?_, fun y hy => ?_⟩)
  · simp at q2
    omega
  · rw [q3 b (by simp; omega) (fun hy => by have := p5 b hy; omega), List.getElem?_append_left p3.lt]
  · have e1 : u8s (s ++ [ch]) = u8s s ++ [.int .u8 x] := by simp [u8s, hx]
    rw [e1]
    simpa using q1
  · rcases q4 y hy with h5 | h5
    · exact p5 y h5
    · simp at h5
      omega
theorem PlI.more {h0 h' l : H} {b K : Nat} {c : Option (List UInt8)} {v : AV} {s : Str} (hp : PlI h0 h' b c K v s) : PlI h0 (h' ++ l) b c K v s := by
  obtain ⟨p1, p2, p3, B, p4, p5⟩ := hp
  exact ⟨by simp; omega, p2, p3.frame (List.getElem?_append_left p3.lt), B, p4.frame fun x hx => List.getElem?_append_left (p4.lt x hx), p5⟩
theorem PlI.monoK {h0 h' : H} {b K K' : Nat} {c : Option (List UInt8)} {v : AV} {s : Str} (hp : PlI h0 h' b c K v s) (hk : K ≤ K') : PlI h0 h' b c K' v s := by
  obtain ⟨p1, p2, p3, p4⟩ := hp
  exact ⟨p1, p2, p3.mono hk, p4⟩
theorem PlI.lenA {h0 h' : H} {b K : Nat} {c : Option (List UInt8)} {v : AV} {s : Str} (hp : PlI h0 h' b c K v s) : lenA v = some (.int .i64 s.length) := by
  obtain ⟨p1, p2, p3, B, ⟨_, p4⟩, p5⟩ := hp
  rcases p4 with ⟨rfl, h0, _⟩ | ⟨b, rfl, _, _⟩
  · rw [h0]; rfl
  · rfl
theorem PlI.cbs {h0 h' : H} {b K : Nat} {c : Option (List UInt8)} {v : AV} {s : Str} (hp : PlI h0 h' b c K v s) : cbsA h' v = some (.str s) := by
  obtain ⟨p1, p2, p3, B, p4, p5⟩ := hp
  exact cbs_S1 p4
theorem over4 (x0 x1 x2 x3 y : AV) : over [x0, x1, x2, x3] 0 [y] = [y, x1, x2, x3] ∧ over [x0, x1, x2, x3] 1 [y] = [x0, y, x2, x3] ∧ over [x0, x1, x2, x3] 2 [y] = [x0, x1, y, x3] ∧ over [x0, x1, x2, x3] 3 [y] = [x0, x1, x2, y] := ⟨rfl, rfl, rfl, rfl⟩

/-- What is new and seen is frozen; what is old stays, as the call has left it. -/
theorem Call.freezeF {P : Program} {f : FuncId} {args : List AV} {h : H} {W : Nat → Prop} {R : AV → H → Prop} (hc : Call P f args h W (fun x h' => ∃ t, Vw h' h.length x t ∧ R t h')) : Call P f args h W (fun x g => ∃ h', g = M.filt (fun b => decide (b < h.length)) h' ∧ R x h') := by
  refine ⟨hc.1, fun S w μ cargs hr ha => (hc.2 S w μ cargs hr ha).mono ?_⟩
  rintro e w' ⟨v, x, h', S', μ', rfl, ⟨t, hvw, hR⟩, hv, hr', hs⟩
  have hlen : μ.length = h.length := hr.len
  have hvt := hvw.sound hr' (M.filt (fun b => decide (b < h.length)) μ') hv
  have hr2 := hr'.filt fun b => decide (b < h.length)
  have hf : Fwd S' w' (M.filt (fun b => decide (b < h.length)) μ') (Kept S' μ' h.length) w' (M.filt (fun b => decide (b < h.length)) μ') := ⟨fun B hB => .inl hB, fun _ _ => rfl, Nat.le_refl _, fun _ _ => .inl rfl⟩
  have hft : ∀ b, b < μ.length → (M.filt (fun b => decide (b < h.length)) μ')[b]? = μ'[b]? := fun b hb => filt_t (by simp; omega)
  refine ⟨v, t, M.filt (fun b => decide (b < h.length)) h', Kept S' μ' h.length, M.filt (fun b => decide (b < h.length)) μ', rfl, ⟨h', rfl, hR⟩, hvt, ⟨hr2.len, fun b o hb => ?_, hr2.dead, hr2.inj, fun b m hm hk => ?_, kept_lt hr', hr'.gl.fwd (fun B hB => .inl hB) (fun _ _ => rfl)⟩, ⟨⟨fun B hB => .inl (hs.s B hB), fun B hB => hs.blk B hB, ?_, fun b hb => ?_⟩, hs.size, hs.os, hs.output, hs.tape, hs.drawn, fun b hb hnW => ?_⟩⟩
  · obtain ⟨m, hm, ho⟩ := hr2.obj b o hb
    exact ⟨m, hm, ho.fwd hf rfl⟩
  · obtain ⟨h1, h2⟩ := filt_some hm
    rcases hk with hk | ⟨b', m', hb', hm', he⟩
    · exact hr'.out b m h2 hk
    · have := hr'.inj b' b m' m hm' h2 he
      have := of_decide_eq_true h1
      omega
  · have := hs.len
    rwa [filt_len]
  · rw [hft b hb]
    exact hs.mu b hb
  · obtain ⟨e1, e2⟩ := hs.kept b hb hnW
    exact ⟨(hft b hb).trans e1, e2⟩

/-- A call that draws: what is old stays, but for the cursor. -/
def CurF (h g : H) (b : Nat) (c : Option (List UInt8)) (K : Nat) : Prop := h.length ≤ g.length ∧ (∀ k, k < h.length → k ≠ b → g[k]? = h[k]?) ∧ CurI g b c K
theorem CurS.f {h g : H} {b K : Nat} {c : Option (List UInt8)} (hs : CurS h g b c K) : CurF h g b c K := ⟨by rw [hs.1]; exact Nat.le_refl _, fun k _ hn => hs.2.1 k hn, hs.2.2⟩
theorem CurF.refl {h : H} {b K : Nat} {c : Option (List UInt8)} (hc : CurI h b c K) : CurF h h b c K := ⟨Nat.le_refl _, fun _ _ _ => rfl, hc⟩
theorem CurF.trans {h g g2 : H} {b K K' : Nat} {c : Option (List UInt8)} (h1 : CurF h g b c K) (h2 : CurF g g2 b c K') : CurF h g2 b c K' :=
  ⟨Nat.le_trans h1.1 h2.1, fun k hk hn => (h2.2.1 k (Nat.lt_of_lt_of_le hk h1.1) hn).trans (h1.2.1 k hk hn), h2.2.2⟩
theorem CurF.mono {h g : H} {b K K' : Nat} {c : Option (List UInt8)} (h1 : CurF h g b c K) (hk : K ≤ K') : CurF h g b c K' := ⟨h1.1, h1.2.1, h1.2.2.mono hk⟩
theorem CurF.more {h g l : H} {b K : Nat} {c : Option (List UInt8)} (h1 : CurF h g b c K) : CurF h (g ++ l) b c K :=
  ⟨by rw [List.length_append]; exact Nat.le_trans h1.1 (Nat.le_add_right _ _), fun k hk hn => (List.getElem?_append_left (Nat.lt_of_lt_of_le hk h1.1)).trans (h1.2.1 k hk hn), h1.2.2.frame (List.getElem?_append_left h1.2.2.lt)⟩
theorem CurF.cells {h g : H} {b K k : Nat} {c : Option (List UInt8)} {cs : List AV} (h1 : CurF h g b c K) (hc : h.cells k = some cs) (hn : k ≠ b) : g.cells k = some cs := cells_keep (h1.2.1 k (cells_lt hc) hn) hc
/-- What such a call returns is frozen. -/
theorem Call.cur {P : Program} {f : FuncId} {args : List AV} {h : H} {W : Nat → Prop} {R : AV → Prop} {b K : Nat} {c : Option (List UInt8)} (hb : b < h.length) (hc : Call P f args h W (fun x h' => ∃ t, Vw h' h.length x t ∧ R t ∧ CurF h h' b c K)) : Call P f args h W (fun x g => R x ∧ CurF h g b c K) := by
  refine (Call.freezeF (R := fun t h' => R t ∧ CurF h h' b c K) hc).mono (fun x g hg => ?_) (fun _ _ h => h)
  obtain ⟨h', rfl, hR, h1, h2, h3⟩ := hg
  exact ⟨hR, by rw [filt_len]; exact h1, fun k hk hn => (filt_t (by simpa using hk)).trans (h2 k hk hn), h3.frame (filt_t (by simpa using hb))⟩
/-- A slice that grows while one draws. -/
def GrD {α : Type} (f : α → AV) (h g : H) (b : Nat) (c : Option (List UInt8)) (K : Nat) (v : AV) (l : List α) : Prop := CurF h g b c K ∧ b < h.length ∧ ∃ B, S1 g 1 v l.length (l.map f) B ∧ ∀ x ∈ B, h.length ≤ x
theorem GrD.start {α : Type} {f : α → AV} {h : H} {b K : Nat} {c : Option (List UInt8)} (hc : CurI h b c K) : GrD f h h b c K .nils [] := ⟨.refl hc, hc.lt, [], S1.nil, by simp⟩
theorem GrD.step {α : Type} {f : α → AV} {h g g2 : H} {b K K' : Nat} {c : Option (List UInt8)} {v : AV} {l : List α} (hg : GrD f h g b c K v l) (hF : CurF g g2 b c K') : GrD f h g2 b c K' v l := by
  obtain ⟨h1, h2, B, h3, h4⟩ := hg
  exact ⟨h1.trans hF, h2, B, h3.frame fun k hk => hF.2.1 k (h3.lt k hk) (by have := h4 k hk; omega), h4⟩
theorem GrD.more {α : Type} {f : α → AV} {h g l2 : H} {b K : Nat} {c : Option (List UInt8)} {v : AV} {l : List α} (hg : GrD f h g b c K v l) : GrD f h (g ++ l2) b c K v l := hg.step (CurF.refl hg.1.2.2).more
theorem GrD.mono {α : Type} {f : α → AV} {h g : H} {b K K' : Nat} {c : Option (List UInt8)} {v : AV} {l : List α} (hg : GrD f h g b c K v l) (hk : K ≤ K') : GrD f h g b c K' v l := hg.step ((CurF.refl hg.1.2.2).mono hk)
theorem GrD.one_ {α : Type} {f : α → AV} {h g : H} {b K : Nat} {c : Option (List UInt8)} {v : AV} {l : List α} (hg : GrD f h g b c K v l) : one v = true ∧ cellsOf v = [v] := by
  obtain ⟨h1, h2, B, h3, h4⟩ := hg
  exact h3.one_
theorem GrD.lenA {α : Type} {f : α → AV} {h g : H} {b K : Nat} {c : Option (List UInt8)} {v : AV} {l : List α} (hg : GrD f h g b c K v l) : lenA v = some (.int .i64 l.length) := by
  obtain ⟨h1, h2, B, h3, h4⟩ := hg
  rcases h3.2 with ⟨rfl, h0, _⟩ | ⟨b, rfl, _, _⟩
  · rw [h0]; rfl
  · rfl
theorem GrD.app {α : Type} {f : α → AV} {h g : H} {b K by_ : Nat} {c : Option (List UInt8)} {v : AV} {l : List α} {a : α} {x : AV} {pm : Nat → Prop} {Q : AV → H → Prop} (hg : GrD f h g b c K v l) (hx : x = f a) (hpm : ∀ k, h.length ≤ k → pm k) (hb : (l.length + 1) * by_ ≤ 140737488355328)
    (hQ : ∀ v' g2, GrD f h g2 b c K v' (l ++ [a]) → Q v' g2) : apA pm (g ++ [some (.cells [x])]) Q 1 by_ (some ([x], 1)) v := by
  obtain ⟨h1, h2, B, h3, h4⟩ := hg
  subst hx
  refine (h3.frame (h' := g ++ _) fun k hk => List.getElem?_append_left (h3.lt k hk)).app0 (new := [f a]) (k := 1) (by_ := by_) (fun k hk => hpm k (h4 k hk)) rfl hb fun u2 g2 B2 a1 a2 a3 a4 a5 => ?_
  simp only [List.length_append, List.length_cons, List.length_nil] at a2 a3 a4
  have hl := h1.1
  have hk2 : ∀ k, k < g.length → k ∉ B → g2[k]? = g[k]? := fun k hk hn => (a3 k (by omega) hn).trans (List.getElem?_append_left hk)
  refine hQ u2 g2 ⟨⟨by omega, fun k hk hn => (hk2 k (by omega) fun h5 => by have := h4 k h5; omega).trans (h1.2.1 k hk hn), h1.2.2.frame (hk2 b (by omega) fun h5 => by have := h4 b h5; omega)⟩, h2, B2, by simpa using a1, fun k hk => ?_⟩
  rcases a4 k hk with h5 | h5
  · exact h4 k h5
  · omega
def f8 (c : UInt8) : AV := .int .u8 (c.toNat : Int)
theorem GrD.cbs {h g : H} {b K : Nat} {c : Option (List UInt8)} {v : AV} {s : Str} (hg : GrD f8 h g b c K v s) : cbsA g v = some (.str s) := by
  obtain ⟨h1, h2, B, h3, h4⟩ := hg
  exact cbs_S1 h3

/-- A slice that grows, in memory of the call's own from n0 on. -/
def GsI {α : Type} (f : α → AV) (n0 : Nat) (h' : H) (v : AV) (L : List α) : Prop := n0 ≤ h'.length ∧ ∃ B, S1 h' 1 v L.length (L.map f) B ∧ ∀ k ∈ B, n0 ≤ k
theorem GsI.len {α : Type} {f : α → AV} {n0 : Nat} {h' : H} {v : AV} {L : List α} (hs : GsI f n0 h' v L) : lenA v = some (.int .i64 L.length) := by
  obtain ⟨_, B, hs, _⟩ := hs
  rcases hs.2 with ⟨rfl, h0, _⟩ | ⟨b, rfl, _⟩
  · rw [h0]
    rfl
  · rfl
theorem GsI.frame {α : Type} {f : α → AV} {n0 : Nat} {h' h2 : H} {v : AV} {L : List α} (hs : GsI f n0 h' v L) (hk : ∀ k, n0 ≤ k → k < h'.length → h2[k]? = h'[k]?) (hl : h'.length ≤ h2.length) : GsI f n0 h2 v L := by
  obtain ⟨hn, B, hs, hB⟩ := hs
  exact ⟨by omega, B, hs.frame fun c hc => hk c (hB c hc) (hs.lt c hc), hB⟩
theorem GsI.more {α : Type} {f : α → AV} {n0 : Nat} {h' : H} {v : AV} {L : List α} (hs : GsI f n0 h' v L) (l : H) : GsI f n0 (h' ++ l) v L := hs.frame (fun k _ hk => List.getElem?_append_left hk) (by simp)
theorem GsI.app {α : Type} {f : α → AV} {n0 by_ : Nat} {h' : H} {v : AV} {L : List α} {x : α} {pm : Nat → Prop} {Q : AV → H → Prop} (hs : GsI f n0 h' v L) (hpm : ∀ c, n0 ≤ c → pm c) (hL : L.length ≤ 1000000) (hby : by_ ≤ 16)
    (hQ : ∀ v' h'', GsI f n0 h'' v' (L ++ [x]) → (∀ c, c < n0 → h''[c]? = h'[c]?) → h'.length ≤ h''.length → Q v' h'') : apA pm (h' ++ [some (.cells [f x])]) Q 1 by_ (some ([f x], 1)) v := by
  obtain ⟨hn, B, hs, hB⟩ := hs
  have hs2 := hs.frame (h' := h' ++ [some (.cells [f x])]) fun c hc => List.getElem?_append_left (hs.lt c hc)
  have hmul : (L.length + 1) * by_ ≤ 1000001 * 16 := Nat.mul_le_mul (by omega) hby
  refine hs2.app (fun c hc => hpm c (hB c hc)) rfl (by decide) (by omega) fun v' h'' B' q1 q2 q3 q4 => ?_
  simp only [List.length_append, List.length_cons, List.length_nil] at q2 q4
  refine hQ v' h'' ⟨by omega, B', by simpa using q1, fun k hk => ?_⟩ (fun c hc => ?_) (by omega)
  · rcases q4 k hk with h5 | h5
    · exact hB k h5
    · omega
  · rw [q3 c (by simp; omega) (fun hb => by have := hB c hb; omega)]
    exact List.getElem?_append_left (by omega)
theorem GsI.at_ {α : Type} {f : α → AV} {n0 : Nat} {h' : H} {v : AV} {L : List α} (hs : GsI f n0 h' v L) (hne : L ≠ []) : ∃ b, v = .sl b 0 1 L.length L.length ∧ n0 ≤ b ∧ H.cells h' b = some (L.map f) := by
  obtain ⟨_, B, hs, hB⟩ := hs
  rcases hs.2 with ⟨rfl, h0, _⟩ | ⟨b, rfl, hb, hcb⟩
  · exact absurd (List.length_eq_zero_iff.1 h0) hne
  · exact ⟨b, rfl, hB b (by rw [hb]; simp), hcb⟩
theorem GsI.nil {α : Type} {f : α → AV} {n0 : Nat} {h' : H} (hn : n0 ≤ h'.length) : GsI f n0 h' .nils [] := ⟨hn, [], S1.nil, by simp⟩
theorem GsI.single {α : Type} {f : α → AV} {n0 : Nat} {h' : H} {x : α} (hn : n0 ≤ h'.length) : GsI f n0 (h' ++ [some (.cells [f x])]) (.sl h'.length 0 1 1 1) [x] := ⟨by simp; omega, [h'.length], ⟨by simp, .inr ⟨h'.length, rfl, rfl, by rw [cells_h0]; rfl⟩⟩, by simpa using hn⟩
theorem GsI.vw {α : Type} {f : α → AV} {n0 n : Nat} {h' : H} {v : AV} {L : List α} (hs : GsI f n0 h' v L) (hn : n ≤ n0) (hf : ∀ a, one (f a) = true) (hf2 : ∀ a, Free (f a)) : ∃ t, Vw h' n v t ∧ (t = .ro 1 (L.map f) L.length ∨ (t = .nils ∧ L = [])) := by
  obtain ⟨_, B, hs, hB⟩ := hs
  rcases hs.2 with ⟨rfl, h0, _⟩ | ⟨b, rfl, hb, hcb⟩
  · exact ⟨.nils, .free free_nils, .inr ⟨rfl, List.eq_nil_of_length_eq_zero h0⟩⟩
  · exact ⟨_, vw_all (by have := hB b (by rw [hb]; simp); omega) hcb (by simp) (one_map hf) (free_map_ hf2), .inl rfl⟩
/-- A list of strings, as it is viewed. -/
theorem GsI.vwS {n0 n : Nat} {h' : H} {v : AV} {L : List Str} (hs : GsI AV.str n0 h' v L) (hn : n ≤ n0) : ∃ o, Vw h' n v (eS o) ∧ lS o = L := by
  obtain ⟨t, h1, h2⟩ := hs.vw hn (fun _ => rfl) fun _ => free_str
  rcases h2 with rfl | ⟨rfl, rfl⟩
  · exact ⟨some L, h1, rfl⟩
  · exact ⟨none, h1, rfl⟩
theorem GsI.vwO {n0 n : Nat} {h' : H} {v : AV} {L : List Bool} (hs : GsI AV.bool n0 h' v L) (hn : n ≤ n0) : ∃ o, Vw h' n v (eO o) ∧ lO o = L := by
  obtain ⟨t, h1, h2⟩ := hs.vw hn (fun _ => rfl) fun _ => free_bool
  rcases h2 with rfl | ⟨rfl, rfl⟩
  · exact ⟨some L, h1, rfl⟩
  · exact ⟨none, h1, rfl⟩

--eng eTr cTr ldT0 ldT2 ldT
def cTr (t : Tr) : List AV := [.int .i64 t.sh.size, eI t.sh.words, .int .i64 t.en.size, eI t.en.words, .str t.lab]
def eTr (t : Tr) : AV := .agg (cTr t)
theorem free_cTr {t : Tr} : ∀ c ∈ cTr t, Free c := free_cons_ free_int (free_cons_ free_eI (free_cons_ free_int (free_cons_ free_eI (free_cons_ free_str free_nil_))))
theorem free_eTr {t : Tr} : Free (eTr t) := free_agg free_cTr
theorem ldT0 {a b c d e : AV} : ld true 2 [a, b, c, d, e] 0 = some (.agg [a, b]) := rfl
theorem ldT2 {a b c d e : AV} : ld true 2 [a, b, c, d, e] 2 = some (.agg [c, d]) := rfl
theorem ldT {a b c d e : AV} : ld true 5 [a, b, c, d, e] 0 = some (.agg [a, b, c, d, e]) := rfl
theorem getLast_getD {α : Type} {d : α} {l : List α} : l.getD (l.length - 1) d = l.getLastD d := by
  rw [List.getLastD_eq_getLast?, List.getLast?_eq_getElem?, List.getD_eq_getElem?_getD]
theorem ndS_len {n : Nat} {out : List Str} {s : Str} : (ndS n out s).length ≤ out.length + 1 := by
  unfold ndS
  split <;> simp
theorem ndS_foldl_len {n : Nat} : ∀ {K out : List Str}, (K.foldl (ndS n) out).length ≤ out.length + K.length
  | [], out => by simp
  | s :: K, out => by
    have h1 := ndS_foldl_len (n := n) (K := K) (out := ndS n out s)
    have h2 := ndS_len (n := n) (out := out) (s := s)
    rw [List.foldl_cons, List.length_cons]
    omega
theorem nodesTo_len {K : List Str} : ∀ {n : Nat}, (nodesTo K n).length ≤ 1 + n * K.length
  | 0 => by simp [nodesTo]
  | n + 1 => by
    have h1 := ndS_foldl_len (n := n + 1) (K := K) (out := nodesTo K n)
    have h2 := nodesTo_len (K := K) (n := n)
    rw [Nat.succ_mul]
    show (K.foldl (ndS (n + 1)) (nodesTo K n)).length ≤ _
    omega
theorem foldl_ndS_ne {n : Nat} : ∀ {K out : List Str}, out ≠ [] → K.foldl (ndS n) out ≠ []
  | [], out, h => h
  | s :: K, out, h => by
    rw [List.foldl_cons]
    refine foldl_ndS_ne ?_
    unfold ndS
    split
    · simp
    · exact h
theorem nodesTo_ne {K : List Str} : ∀ {n : Nat}, nodesTo K n ≠ []
  | 0 => by simp [nodesTo]
  | n + 1 => foldl_ndS_ne nodesTo_ne

attribute [push_cast] eTr cTr ldT0 ldT2 ldT
def szOk (t : Tr) : Bool := decide (t.sh.size = 2 * t.en.size - 1) && decide ((t.lab.length : Int) = t.en.size - 1)
def prV (t : Tr) : AV := if szOk t then match decT false t.lab (btL t.sh) with | some (P, _) => .tup [eS (some P), .bool (decide ((P.length : Int) = t.en.size))] | none => .tup [.nils, .bool false] else .tup [.nils, .bool false]
theorem dec_none {cap : Bool} {lab : Str} {bits : List Bool} (i : Nat) (h : (bits.take i).foldl (stp cap lab) (some ([[]], 0)) = none) : decT cap lab bits = none := by
  unfold decT
  conv => lhs; rw [← List.take_append_drop i bits]
  rw [List.foldl_append, h, stp_none]
theorem btL_get {b : Bt} {i : Nat} (hi : i < b.size.toNat) : (btL b).getD i false = atB b i := by simp [btL, hi]
theorem btL_len {b : Bt} : (btL b).length = b.size.toNat := by simp [btL]

theorem c_spec_trPaths (t : Tr) (h1 : okBt t.sh = true) (h2 : okBt t.en = true) : Fn Tryz.prog 129 [eTr t] (· = prV t) := by
  refine Fn.froze fun h => ?_
  refine enter (by kernel_rfl) e129 (by kernel_rfl) rfl fun hok => ?_
  simp only [r129, initEnv_1]
  have hgl := @btL_get t.sh
  have hbl := btL_len (b := t.sh)
  have hpv : prV t = if szOk t then match decT false t.lab (btL t.sh) with | some (P, _) => .tup [eS (some P), .bool (decide ((P.length : Int) = t.en.size))] | none => .tup [.nils, .bool false] else .tup [.nils, .bool false] := rfl
  have hsk : szOk t = (decide (t.sh.size = 2 * t.en.size - 1) && decide ((t.lab.length : Int) = t.en.size - 1)) := rfl
  generalize prV t = R at hpv
  generalize szOk t = q at hpv hsk
  generalize btL t.sh = bits at *
  have hat : ∀ i, atB t.sh i = (numW (lI t.sh.words)).testBit i := fun _ => rfl
  generalize hAt : atB t.sh = At at *
  clear hAt
  obtain ⟨⟨ss, sw⟩, ⟨es, ew⟩, lab⟩ := t
  obtain ⟨w1, w2, w3, w4⟩ := okBt_num h1
  obtain ⟨_, e2, e3, _⟩ := okBt_num h2
  simp only at w1 w2 w3 w4 e2 e3 hgl hbl hpv hsk hat
  have hnone : ∀ {hh : H}, R = .tup [.nils, .bool false] → Vw hh h.length (.tup [.nils, .bool false]) R := fun h5 => by
    rw [h5]
    exact .free (free_tup (free_cons_ free_nils (free_cons_ free_bool free_nil_)))
  by_cases hz : ss = 2 * es - 1 ∧ (lab.length : Int) = es - 1
  · obtain ⟨z1, z2⟩ := hz
    have z0 : es ≠ 0 := by omega
    have hq : q = true := by rw [hsk]; simp [z1, z2]
    rw [hq, if_pos rfl] at hpv
    have z1' : (ss = 2 * es - 1) = True := by simp [z1]
    have z2' : ((lab.length : Int) = es - 1) = True := by simp [z2]
    (try (simp (disch := first | omega | (simp <;> omega) | fail) only [push_cast, ↓reduceIte, Nat.reduceEqDiff, Nat.reduceAdd, Nat.reduceMul, Nat.reduceSub, Nat.reduceLT, Int.reduceToNat, z0, z1', z2']))
    refine T_for bits.length (fun i e h' => ∃ (v : AV) (a : Nat) (L : List Str), Pins e [(1, .adr h.length 0), (4, .int .i64 es), (5, v), (6, .int .i64 a), (7, .int .i64 i)] ∧ (GsI AV.str (h.length + 1) h' v L ∧ H.cells h' h.length = some [.int .i64 ss, eI sw, .int .i64 es, eI ew, .str lab]) ∧ ((bits.take i).foldl (stp false lab) (some ([[]], 0)) = some (L, a) ∧ a ≤ L.length ∧ (1 ≤ L.length ∧ L.length ≤ i + 1 ∧ L.length ≤ lab.length + 1) ∧ ∀ x ∈ L, x.length ≤ i)) ?_ ?_
    · refine ⟨.sl (h.length + 1) 0 1 1 1, 0, [[]], ?_⟩
      have hg := GsI.single (f := AV.str) (n0 := h.length + 1) (h' := h ++ [some (.cells [.int .i64 ss, eI sw, .int .i64 es, eI ew, .str lab])]) (x := []) (by simp)
      rw [List.append_assoc] at hg
      simp only [List.length_append, List.length_cons, List.length_nil] at hg
      (try (simp (disch := first | omega | (simp <;> omega) | fail) only [push_cast, ↓reduceIte, Nat.reduceEqDiff, Nat.reduceAdd, Nat.reduceMul, Nat.reduceSub, Nat.reduceLT, Int.reduceToNat]))
      all_goals (try exact ⟨hg, rfl, by simp⟩)
      all_goals (try exact ⟨hg, by simp⟩)
    rintro i e h' hi ⟨v, a, L, hp, ⟨hs, hbx⟩, hf, haL, ⟨hL1, hL2, hL3⟩, hx⟩
    refine T_pins hp fun e => ?_
    have hlen := hs.len
    have hsi : (ss : Int) = (bits.length : Int) := by omega
    (try (simp (disch := first | omega | (simp <;> omega) | fail) only [push_cast, ↓reduceIte, Nat.reduceEqDiff, Nat.reduceAdd, Nat.reduceMul, Nat.reduceSub, Nat.reduceLT, Int.reduceToNat, hbx]))
    by_cases hib : i < bits.length
    · have hlt : ((i : Int) < ss) = True := by simp; omega
      have hnx := foldl_take (f := stp false lab) (b := some ([[]], 0)) (d := false) hib
      rw [hf, hgl (by omega)] at hnx
      have hbad : (bits.take (i + 1)).foldl (stp false lab) (some ([[]], 0)) = none → R = .tup [.nils, .bool false] := fun h5 => by rw [hpv, dec_none _ h5]
      by_cases c1 : a = L.length
      · have hl := hbad (by rw [hnx]; simp only [stp]; rw [if_pos (by omega)])
        have c1' : ((a : Int) = (L.length : Int)) = True := by simp; omega
        (try (simp (disch := first | omega | (simp <;> omega) | fail) only [push_cast, ↓reduceIte, Nat.reduceEqDiff, Nat.reduceAdd, Nat.reduceMul, Nat.reduceSub, Nat.reduceLT, Int.reduceToNat, hlt, hlen, c1']))
        all_goals (try exact hnone hl)
      have c1' : ((a : Int) = (L.length : Int)) = False := by simp; omega
      (try (simp (disch := first | omega | (simp <;> omega) | fail) only [push_cast, ↓reduceIte, Nat.reduceEqDiff, Nat.reduceAdd, Nat.reduceMul, Nat.reduceSub, Nat.reduceLT, Int.reduceToNat, hlt, hlen, c1', hbx]))
      refine (c_spec_biAt ⟨ss, sw⟩ (numW (lI sw)) (lI sw).length i w1 (by omega) (by omega)).call ?_
      rw [← hat i]
      cases hb : At i
      · rw [hb] at hnx
        have hnx2 : (bits.take (i + 1)).foldl (stp false lab) (some ([[]], 0)) = some (L, a + 1) := by
          rw [hnx]
          simp only [stp]
          rw [if_neg (by omega)]
          rfl
        (try (simp (disch := first | omega | (simp <;> omega) | fail) only [push_cast, ↓reduceIte, Nat.reduceEqDiff, Nat.reduceAdd, Nat.reduceMul, Nat.reduceSub, Nat.reduceLT, Int.reduceToNat]))
        all_goals (try exact ⟨v, a + 1, L, ⟨rfl, rfl⟩, ⟨hs, hbx⟩, hnx2, by omega, by omega, fun x hx5 => by have := hx x hx5; omega⟩)
      · rw [hb] at hnx
        by_cases c2 : lab.length < L.length
        · have hl := hbad (by
            rw [hnx]
            simp only [stp]
            rw [if_neg (by omega), if_neg (by simp), if_pos (.inl c2)])
          have c2' : ((L.length : Int) = es) = True := by simp; omega
          (try (simp (disch := first | omega | (simp <;> omega) | fail) only [push_cast, ↓reduceIte, Nat.reduceEqDiff, Nat.reduceAdd, Nat.reduceMul, Nat.reduceSub, Nat.reduceLT, Int.reduceToNat, hlen, c2']))
          all_goals (try exact hnone hl)
        have c2' : ((L.length : Int) = es) = False := by simp; omega
        have hnx2 : (bits.take (i + 1)).foldl (stp false lab) (some ([[]], 0)) = some (L ++ [L.getD a [] ++ [lab.getD (L.length - 1) 0]], a) := by
          rw [hnx]
          simp only [stp]
          rw [if_neg (by omega), if_neg (by simp), if_neg (fun h5 => h5.elim c2 fun h7 => by cases h7.1)]
        obtain ⟨b, hv, hbb, hcb⟩ := hs.at_ (fun h5 => by rw [h5] at hL1; simp at hL1)
        have hia : iaddrA 1 v (.int .i64 (a : Int)) = some (.adr b a) := by
          rw [hv, iaddrA_sl (by omega) (by omega)]
          congr 2
          omega
        have hget : (L.map AV.str)[a]? = some (.str (L.getD a [])) := by simp [show a < L.length by omega]
        have hxa : (L.getD a []).length ≤ i := hx _ (by simp [show a < L.length by omega])
        have htk : List.take (L.length - (L.length - 1)) (List.drop (L.length - 1) lab) = [lab.getD (L.length - 1) 0] := by
          rw [show L.length - (L.length - 1) = 1 by omega, List.drop_eq_getElem_cons (by omega), List.take_succ_cons, List.take_zero, List.getD_eq_getElem?_getD, List.getElem?_eq_getElem (by omega)]
          rfl
        obtain ⟨y, hy⟩ : ∃ y, y = L.getD a [] ++ [lab.getD (L.length - 1) 0] := ⟨_, rfl⟩
        have hyl : y.length ≤ i + 1 := by
          rw [hy, List.length_append]
          simp only [List.length_cons, List.length_nil]
          omega
        have hcat : abin .add (.str (L.getD a [])) (.str [lab.getD (L.length - 1) 0]) = some (.str y) := by
          rw [hy]
          refine abin_s_add ?_
          simp only [List.length_cons, List.length_nil]
          omega
        rw [← hy] at hnx2
        have hfin : ∀ x ∈ L ++ [y], x.length ≤ i + 1 := fun x hx5 => by
          rcases List.mem_append.1 hx5 with h5 | h5
          · have := hx x h5; omega
          · simp only [List.mem_singleton] at h5
            rw [h5]; exact hyl
        (try (simp (disch := first | omega | (simp <;> omega) | fail) only [push_cast, ↓reduceIte, Nat.reduceEqDiff, Nat.reduceAdd, Nat.reduceMul, Nat.reduceSub, Nat.reduceLT, Int.reduceToNat, hlen, c2', hia, hcb, hget, hbx, htk, hcat, reads, List.mem_cons, List.mem_append, List.not_mem_nil, nat_ff, or_self, or_false, false_or, not_false_eq_true]))
        repeat' (with_reducible refine And.intro ?_ ?_)
        all_goals
          refine hs.app (by_ := 16) (fun c hc => by first | exact Or.inr (by omega) | exact ⟨Or.inr (by omega), by omega⟩ | exact ⟨Or.inr (by omega), by simp; omega⟩) (by omega) (by decide) fun v' h'' q1 q2 q3 => ?_
          have hbx2 := cells_keep (q2 h.length (by omega)) hbx
          (try (simp (disch := first | omega | (simp <;> omega) | fail) only [push_cast, ↓reduceIte, Nat.reduceEqDiff, Nat.reduceAdd, Nat.reduceMul, Nat.reduceSub, Nat.reduceLT, Int.reduceToNat]))
          all_goals (try exact ⟨v', a, L ++ [y], ⟨rfl, rfl⟩, ⟨q1, hbx2⟩, hnx2, by simp; omega, by simp; omega, hfin⟩)
    · have hie : i = bits.length := by omega
      subst hie
      have hlt : ((bits.length : Int) < ss) = False := by simp; omega
      rw [List.take_length] at hf
      have hpv2 : R = .tup [eS (some L), .bool (decide ((L.length : Int) = es))] := by
        rw [hpv]
        unfold decT
        rw [hf]
      obtain ⟨b, hv, hbb, hcb⟩ := hs.at_ (fun h5 => by rw [h5] at hL1; simp at hL1)
      have hvw : Vw h' h.length (.tup [v, .bool (decide ((L.length : Int) = es))]) R := by
        rw [hpv2, hv]
        refine .tup rfl fun j y t hy ht => ?_
        rcases j with _ | _ | j
        · simp at hy ht
          subst hy ht
          exact vw_all (by omega) hcb (by simp) (one_map fun _ => rfl) (free_map_ fun _ => free_str)
        · simp at hy ht
          subst hy ht
          exact .free free_bool
        · simp at hy
      (try (simp (disch := first | omega | (simp <;> omega) | fail) only [push_cast, ↓reduceIte, Nat.reduceEqDiff, Nat.reduceAdd, Nat.reduceMul, Nat.reduceSub, Nat.reduceLT, Int.reduceToNat, hlt, hlen]))
      all_goals (try exact hvw)
  · have hq : q = false := by
      rw [hsk, Bool.and_eq_false_iff, decide_eq_false_iff_not, decide_eq_false_iff_not]
      by_cases h5 : ss = 2 * es - 1
      · exact .inr fun h7 => hz ⟨h5, h7⟩
      · exact .inl h5
    rw [hq, if_neg (by simp)] at hpv
    by_cases z0 : es = 0
    · (try (simp (disch := first | omega | (simp <;> omega) | fail) only [push_cast, ↓reduceIte, Nat.reduceEqDiff, Nat.reduceAdd, Nat.reduceMul, Nat.reduceSub, Nat.reduceLT, Int.reduceToNat, z0]))
      all_goals (try exact hnone hpv)
    by_cases z1 : ss = 2 * es - 1
    · have z2 : ¬ (lab.length : Int) = es - 1 := fun h7 => hz ⟨z1, h7⟩
      have z1' : (ss = 2 * es - 1) = True := by simp [z1]
      (try (simp (disch := first | omega | (simp <;> omega) | fail) only [push_cast, ↓reduceIte, Nat.reduceEqDiff, Nat.reduceAdd, Nat.reduceMul, Nat.reduceSub, Nat.reduceLT, Int.reduceToNat, z0, z1', z2]))
      all_goals (try exact hnone hpv)
    · (try (simp (disch := first | omega | (simp <;> omega) | fail) only [push_cast, ↓reduceIte, Nat.reduceEqDiff, Nat.reduceAdd, Nat.reduceMul, Nat.reduceSub, Nat.reduceLT, Int.reduceToNat, z0, z1]))
      all_goals (try exact hnone hpv)

theorem slc_two {h : H} {v : AV} {l : List Str} {B : List Nat} {i : Nat} (hS : S1 h 1 v l.length (l.map .str) B) (hi : i ≤ l.length) (hl : l.length ≤ 10000) : ∃ x1 x2, slcA 1 none (some (.int .i64 i)) v = some x1 ∧ slcA 1 (some (.int .i64 i)) none v = some x2 ∧
    ∀ g : H, (∀ k, k < h.length → g[k]? = h[k]?) → srcCells g false 1 x1 = some ((l.take i).map .str, i) ∧ srcCells g false 1 x2 = some ((l.drop i).map .str, l.length - i) := by
  rcases hS.2 with ⟨rfl, h0, _⟩ | ⟨b, rfl, _, hc⟩
  · have hl0 : l = [] := List.eq_nil_of_length_eq_zero h0
    subst hl0
    have hi0 : i = 0 := by simpa using hi
    subst hi0
    exact ⟨.nils, .nils, rfl, rfl, fun g _ => ⟨rfl, rfl⟩⟩
  · refine ⟨.sl b 0 1 i l.length, .sl b i 1 (l.length - i) (l.length - i), ?_, ?_, fun g hg => ?_⟩
    · rw [slcA_sl, bndA_int (by omega) (by omega)]
      simp [bndA_none]
    · rw [slcA_sl, bndA_none, Option.bind_some, bndA_int (by omega) (by omega)]
      simp
    · have hcg := cells_keep (hg b (cells_lt hc)) hc
      rw [src_sl, src_sl, hcg]
      simp only [Option.bind_some, List.length_map, Nat.mul_one, Nat.zero_add, List.drop_zero]
      rw [if_pos hi, if_pos (by omega)]
      refine ⟨by rw [List.map_take], ?_⟩
      rw [← List.map_drop, List.take_of_length_le (by simp)]
theorem c_spec_l1PutS_x (v : AV) (l : List Str) (B : List Nat) (s : Str) (h : H) (hS : S1 h 1 v l.length (l.map .str) B) (hl : l.length ≤ 10000) :
    Call Tryz.prog 122 [v, .str s] h Nowhere (fun x h' => h.length ≤ h'.length ∧ (∀ k, k < h.length → h'[k]? = h[k]?) ∧ ∃ (l' : List Str) (B' : List Nat), S1 h' 1 x l'.length (l'.map .str) B' ∧ (∀ k ∈ B', k ∈ B ∨ h.length ≤ k) ∧ l' = putS l s) := by
  refine enter (by kernel_rfl) e122 (by kernel_rfl) rfl fun hok => ?_
  simp only [r122, initEnv_2]
  generalize hT : RCode.seq (.reg (⟨some 34, .m (.bsl 1 0 [.str []] []), none⟩ :: _)) _ = TL
  have tail : ∀ (i : Nat) (e : Env), i ≤ l.length → putS l s = l.take i ++ [s] ++ l.drop i → Pins e [(0, v), (1, .str s), (5, .int .i64 i)] → T Tryz.prog (fun b => Nowhere b ∨ h.length ≤ b) TL (K Tryz.prog (fun b => Nowhere b ∨ h.length ≤ b) [] (Ends [.t 4] fun x h' => h.length ≤ h'.length ∧ (∀ k, k < h.length → h'[k]? = h[k]?) ∧ ∃ (l' : List Str) (B' : List Nat), S1 h' 1 x l'.length (l'.map .str) B' ∧ (∀ k ∈ B', k ∈ B ∨ h.length ≤ k) ∧ l' = putS l s)) e h := by
    intro i e hi hput hp
    rw [← hT]
    refine T_pins hp fun e => ?_
    obtain ⟨x1, x2, hx1, hx2, hsrc⟩ := slc_two hS hi hl
    have hs0 : S1 (h ++ [some (.cells [])]) 1 (.sl h.length 0 1 0 0) 0 [] [h.length] := ⟨by simp, .inr ⟨h.length, rfl, rfl, by rw [cells_h0]; rfl⟩⟩
    (try (simp (disch := first | omega | (simp <;> omega) | fail) only [push_cast, ↓reduceIte, Nat.reduceEqDiff, Nat.reduceAdd, Nat.reduceMul, Nat.reduceSub, Nat.reduceLT, Int.reduceToNat, hx1]))
    rw [(hsrc (h ++ [some (.cells [])]) fun k hk => List.getElem?_append_left hk).1]
    refine hs0.app0 (k := i) (by_ := 16) (fun b hb => Or.inr (by simp at hb; omega)) (by simp; omega) (by omega) fun v1 h1 B1 a1 a2 a3 a4 a5 => ?_
    simp only [List.length_append, List.length_cons, List.length_nil] at a2 a3
    have k1 : ∀ k, k < h.length → h1[k]? = h[k]? := fun k hk => (a3 k (by omega) (by simp; omega)).trans (List.getElem?_append_left hk)
    have b1 : ∀ k ∈ B1, h.length ≤ k := fun k hk => by rcases a4 k hk with h5 | h5 <;> simp at h5 <;> omega
    (try (simp (disch := first | omega | (simp <;> omega) | fail) only [push_cast, ↓reduceIte, Nat.reduceEqDiff, Nat.reduceAdd, Nat.reduceMul, Nat.reduceSub, Nat.reduceLT, Int.reduceToNat]))
    have b2 := a1.frame (h' := h1 ++ [some (.cells [.str s])]) fun c hc => List.getElem?_append_left (a1.lt c hc)
    refine b2.app0 (new := [.str s]) (k := 1) (by_ := 16) (fun b hb => Or.inr (b1 b hb)) (by simp) (by omega) fun v2 h2 B2 c1 c2 c3 c4 c5 => ?_
    simp only [List.length_append, List.length_cons, List.length_nil] at c2 c3 c4
    have k2 : ∀ k, k < h.length → h2[k]? = h[k]? := fun k hk => (c3 k (by omega) fun h5 => by have := b1 k h5; omega).trans ((List.getElem?_append_left (by omega)).trans (k1 k hk))
    have b3 : ∀ k ∈ B2, h.length ≤ k := fun k hk => by
      rcases c4 k hk with h5 | h5
      · exact b1 k h5
      · omega
    (try (simp (disch := first | omega | (simp <;> omega) | fail) only [push_cast, ↓reduceIte, Nat.reduceEqDiff, Nat.reduceAdd, Nat.reduceMul, Nat.reduceSub, Nat.reduceLT, Int.reduceToNat, hx2]))
    rw [(hsrc h2 k2).2]
    refine c1.app0 (k := l.length - i) (by_ := 16) (fun b hb => Or.inr (b3 b hb)) (by simp) (by omega) fun v3 h3 B3 d1 d2 d3 d4 d5 => ?_
    have hL : ((([] ++ (l.take i).map AV.str) ++ [.str s]) ++ (l.drop i).map AV.str) = (l.take i ++ [s] ++ l.drop i).map AV.str := by simp
    have hn : (0 + i + 1 + (l.length - i)) = (l.take i ++ [s] ++ l.drop i).length := by simp; omega
    rw [hL, hn] at d1
    have k3 : ∀ k, k < h.length → h3[k]? = h[k]? := fun k hk => (d3 k (by omega) fun h5 => by have := b3 k h5; omega).trans (k2 k hk)
    have hl3 : h.length ≤ h3.length := by omega
    have hfin : ∃ (l' : List Str) (B' : List Nat), S1 h3 1 v3 l'.length (l'.map .str) B' ∧ (∀ k ∈ B', k ∈ B ∨ h.length ≤ k) ∧ l' = putS l s :=
      ⟨_, B3, d1, fun k hk => by
        rcases d4 k hk with h5 | h5
        · exact .inr (b3 k h5)
        · exact .inr (by omega), hput.symm⟩
    (try (simp (disch := first | omega | (simp <;> omega) | fail) only [push_cast, ↓reduceIte, Nat.reduceEqDiff, Nat.reduceAdd, Nat.reduceMul, Nat.reduceSub, Nat.reduceLT, Int.reduceToNat]))
    all_goals (try exact ⟨hl3, k3, hfin⟩)
    all_goals (try exact ⟨k3, hfin⟩)
  have hlv : lenA v = some (.int .i64 l.length) := by
    rcases hS.2 with ⟨rfl, h0, _⟩ | ⟨b, rfl, _, _⟩
    · rw [h0]; rfl
    · rfl
  (try (simp (disch := first | omega | (simp <;> omega) | fail) only [push_cast, ↓reduceIte, Nat.reduceEqDiff, Nat.reduceAdd, Nat.reduceMul, Nat.reduceSub, Nat.reduceLT, Int.reduceToNat]))
  refine T_for l.length (fun i e h' => Pins e [(0, v), (1, .str s), (5, .int .i64 i)] ∧ h' = h ∧ ∀ j, j < i → Op.bytesLess (l.getD j []) s = true) ?_ ?_
  · (try (simp (disch := first | omega | (simp <;> omega) | fail) only [push_cast, ↓reduceIte, Nat.reduceEqDiff, Nat.reduceAdd, Nat.reduceMul, Nat.reduceSub, Nat.reduceLT, Int.reduceToNat]))
    all_goals (try exact fun j hj => absurd hj (Nat.not_lt_zero j))
    all_goals (try simp)
  rintro i e h' hi ⟨hp, rfl, hlo⟩
  refine T_pins hp fun e => ?_
  have hself : putS l s = l → h'.length ≤ h'.length ∧ (∀ k, k < h'.length → h'[k]? = h'[k]?) ∧ ∃ (l' : List Str) (B' : List Nat), S1 h' 1 v l'.length (l'.map .str) B' ∧ (∀ k ∈ B', k ∈ B ∨ h'.length ≤ k) ∧ l' = putS l s := fun h5 => ⟨Nat.le_refl _, fun _ _ => rfl, l, B, hS, fun k hk => .inl hk, h5.symm⟩
  by_cases hil : i < l.length
  · rcases hS.2 with ⟨_, h0, _⟩ | ⟨b, hv, hB, hcb⟩
    · omega
    have hia : iaddrA 1 v (.int .i64 i) = some (.adr b i) := by
      rw [hv, iaddrA_sl (by omega) (by omega)]
      simp
    have hget : (l.map AV.str)[i]? = some (.str (l.getD i [])) := by simp [hil]
    (try (simp (disch := first | omega | (simp <;> omega) | fail) only [push_cast, ↓reduceIte, Nat.reduceEqDiff, Nat.reduceAdd, Nat.reduceMul, Nat.reduceSub, Nat.reduceLT, Int.reduceToNat, hlv, hia, hcb, hget]))
    first | refine goC_split (fun hc => ?_) (fun hc => ?_) | refine cnd_split (fun hc => ?_) (fun hc => ?_)
    · (try (simp only [decide_eq_true_eq, decide_eq_false_iff_not, Bool.not_eq_true', Bool.not_eq_false', Bool.and_eq_true, Bool.or_eq_true, Int.not_lt, Int.not_le] at hc)); (try (simp (disch := first | omega | (simp <;> omega) | fail) only [push_cast, ↓reduceIte, Nat.reduceEqDiff, Nat.reduceAdd, Nat.reduceMul, Nat.reduceSub, Nat.reduceLT, Int.reduceToNat]))
      have hnx : ∀ j, j < i + 1 → Op.bytesLess (l.getD j []) s = true := fun j hj => by
        rcases Nat.lt_or_ge j i with h5 | h5
        · exact hlo j h5
        · rw [show j = i by omega]
          exact hc
      (try (simp (disch := first | omega | (simp <;> omega) | fail) only [push_cast, ↓reduceIte, Nat.reduceEqDiff, Nat.reduceAdd, Nat.reduceMul, Nat.reduceSub, Nat.reduceLT, Int.reduceToNat]))
      all_goals (try exact hnx)
    · (try (simp only [decide_eq_true_eq, decide_eq_false_iff_not, Bool.not_eq_true', Bool.not_eq_false', Bool.and_eq_true, Bool.or_eq_true, Int.not_lt, Int.not_le] at hc)); (try (simp (disch := first | omega | (simp <;> omega) | fail) only [push_cast, ↓reduceIte, Nat.reduceEqDiff, Nat.reduceAdd, Nat.reduceMul, Nat.reduceSub, Nat.reduceLT, Int.reduceToNat]))
      have hpa := putS_at (s := s) (l := l) hi hlo fun _ => by simpa using hc
      (try (simp (disch := first | omega | (simp <;> omega) | fail) only [push_cast, ↓reduceIte, Nat.reduceEqDiff, Nat.reduceAdd, Nat.reduceMul, Nat.reduceSub, Nat.reduceLT, Int.reduceToNat, hlv, hia, hcb, hget]))
      first | refine goC_split (fun hd => ?_) (fun hd => ?_) | refine cnd_split (fun hd => ?_) (fun hd => ?_)
      · (try (simp only [decide_eq_true_eq, decide_eq_false_iff_not, Bool.not_eq_true', Bool.not_eq_false', Bool.and_eq_true, Bool.or_eq_true, Int.not_lt, Int.not_le] at hd)); (try (simp (disch := first | omega | (simp <;> omega) | fail) only [push_cast, ↓reduceIte, Nat.reduceEqDiff, Nat.reduceAdd, Nat.reduceMul, Nat.reduceSub, Nat.reduceLT, Int.reduceToNat]))
        rw [if_pos ⟨hil, hd⟩] at hpa
        have hself := hself hpa
        (try (simp (disch := first | omega | (simp <;> omega) | fail) only [push_cast, ↓reduceIte, Nat.reduceEqDiff, Nat.reduceAdd, Nat.reduceMul, Nat.reduceSub, Nat.reduceLT, Int.reduceToNat]))
        all_goals (try exact hself)
        all_goals (try exact ⟨fun _ _ => trivial, hself.2.2⟩)
      · (try (simp only [decide_eq_true_eq, decide_eq_false_iff_not, Bool.not_eq_true', Bool.not_eq_false', Bool.and_eq_true, Bool.or_eq_true, Int.not_lt, Int.not_le] at hd)); (try (simp (disch := first | omega | (simp <;> omega) | fail) only [push_cast, ↓reduceIte, Nat.reduceEqDiff, Nat.reduceAdd, Nat.reduceMul, Nat.reduceSub, Nat.reduceLT, Int.reduceToNat]))
        rw [if_neg (fun h5 => hd h5.2)] at hpa
        (try (simp (disch := first | omega | (simp <;> omega) | fail) only [push_cast, ↓reduceIte, Nat.reduceEqDiff, Nat.reduceAdd, Nat.reduceMul, Nat.reduceSub, Nat.reduceLT, Int.reduceToNat]))
        all_goals (try exact tail i _ hi hpa ⟨rfl, rfl, rfl, trivial⟩)
  · have hpa := putS_at (s := s) (l := l) hi hlo fun h5 => absurd h5 hil
    rw [if_neg (fun h5 => hil h5.1)] at hpa
    have hnl : ¬ (i : Int) < (l.length : Int) := by omega
    (try (simp (disch := first | omega | (simp <;> omega) | fail) only [push_cast, ↓reduceIte, Nat.reduceEqDiff, Nat.reduceAdd, Nat.reduceMul, Nat.reduceSub, Nat.reduceLT, Int.reduceToNat, hlv, hnl]))
    all_goals (try exact tail i _ hi hpa ⟨rfl, rfl, rfl, trivial⟩)
theorem c_spec_l1PutS (v : AV) (l : List Str) (B : List Nat) (s : Str) (h : H) (hS : S1 h 1 v l.length (l.map .str) B) (hl : l.length ≤ 10000) :
    Call Tryz.prog 122 [v, .str s] h Nowhere (fun x h' => h.length ≤ h'.length ∧ (∀ k, k < h.length → h'[k]? = h[k]?) ∧ ∃ (l' : List Str) (B' : List Nat), S1 h' 1 x l'.length (l'.map .str) B' ∧ (∀ k ∈ B', k ∈ B ∨ h.length ≤ k) ∧ l'.length ≤ l.length + 1) := 
  (c_spec_l1PutS_x v l B s h hS hl).mono (fun x h' hx => by
    obtain ⟨h1, h2, l', B', h3, h4, h5⟩ := hx
    exact ⟨h1, h2, l', B', h3, h4, by rw [h5]; exact putS_len⟩) (fun _ _ h => h)

theorem c_spec_IsKey (s : Str) : Fn Tryz.prog 87 [.str s] (· = .bool (okKey s)) := by
  refine Fn.of free_bool fun h => ?_
  refine enter (by kernel_rfl) e87 (by kernel_rfl) rfl fun hok => ?_
  simp only [r87, initEnv_1]
  have hlen := (okV_0 hok).str
  (try (simp (disch := first | omega | (simp <;> omega) | fail) only [push_cast, ↓reduceIte, Nat.reduceEqDiff, Nat.reduceAdd, Nat.reduceMul, Nat.reduceSub, Nat.reduceLT, Int.reduceToNat]))
  refine T_for s.length (fun i e h' => Pins e [(0, .str s), (3, .int .i64 i)] ∧ h' = h ∧ (s.take i).all okByte = true) ?_ ?_
  · (try (simp (disch := first | omega | (simp <;> omega) | fail) only [push_cast, ↓reduceIte, Nat.reduceEqDiff, Nat.reduceAdd, Nat.reduceMul, Nat.reduceSub, Nat.reduceLT, Int.reduceToNat]))
    simp
  rintro i e h' hi ⟨hp, rfl, ha⟩
  refine T_pins hp fun e => ?_
  (try (simp (disch := first | omega | (simp <;> omega) | fail) only [push_cast, ↓reduceIte, Nat.reduceEqDiff, Nat.reduceAdd, Nat.reduceMul, Nat.reduceSub, Nat.reduceLT, Int.reduceToNat]))
  first | refine goC_split (fun hc => ?_) (fun hc => ?_) | refine cnd_split (fun hc => ?_) (fun hc => ?_)
  · (try (simp only [decide_eq_true_eq, decide_eq_false_iff_not, Bool.not_eq_true', Bool.not_eq_false', Bool.and_eq_true, Bool.or_eq_true, Int.not_lt, Int.not_le] at hc)); (try (simp (disch := first | omega | (simp <;> omega) | fail) only [push_cast, ↓reduceIte, Nat.reduceEqDiff, Nat.reduceAdd, Nat.reduceMul, Nat.reduceSub, Nat.reduceLT, Int.reduceToNat]))
    have hi : i < s.length := by omega
    have hn : (s.take (i + 1)).all okByte = okByte (s.getD i 0) := by
      rw [List.take_add_one, List.all_append, ha]
      simp [hi]
    have hf : okByte (s.getD i 0) = false → okKey s = false := fun hf => by
      unfold okKey
      rw [Bool.and_eq_false_iff]
      left
      rw [List.all_eq_false]
      refine ⟨s.getD i 0, by simp [hi], by rw [hf]; simp⟩
    (try (simp (disch := first | omega | (simp <;> omega) | fail) only [push_cast, ↓reduceIte, Nat.reduceEqDiff, Nat.reduceAdd, Nat.reduceMul, Nat.reduceSub, Nat.reduceLT, Int.reduceToNat]))
    first | refine goC_split (fun hc => ?_) (fun hc => ?_) | refine cnd_split (fun hc => ?_) (fun hc => ?_)
    · (try (simp only [decide_eq_true_eq, decide_eq_false_iff_not, Bool.not_eq_true', Bool.not_eq_false', Bool.and_eq_true, Bool.or_eq_true, Int.not_lt, Int.not_le] at hc)); (try (simp (disch := first | omega | (simp <;> omega) | fail) only [push_cast, ↓reduceIte, Nat.reduceEqDiff, Nat.reduceAdd, Nat.reduceMul, Nat.reduceSub, Nat.reduceLT, Int.reduceToNat]))
      rw [hf (by unfold okByte; simp only [Bool.and_eq_false_iff, decide_eq_false_iff_not]; omega)]
    · (try (simp only [decide_eq_true_eq, decide_eq_false_iff_not, Bool.not_eq_true', Bool.not_eq_false', Bool.and_eq_true, Bool.or_eq_true, Int.not_lt, Int.not_le] at hc)); (try (simp (disch := first | omega | (simp <;> omega) | fail) only [push_cast, ↓reduceIte, Nat.reduceEqDiff, Nat.reduceAdd, Nat.reduceMul, Nat.reduceSub, Nat.reduceLT, Int.reduceToNat]))
      (try (simp (disch := first | omega | (simp <;> omega) | fail) only [push_cast, ↓reduceIte, Nat.reduceEqDiff, Nat.reduceAdd, Nat.reduceMul, Nat.reduceSub, Nat.reduceLT, Int.reduceToNat]))
      first | refine goC_split (fun hd => ?_) (fun hd => ?_) | refine cnd_split (fun hd => ?_) (fun hd => ?_)
      · (try (simp only [decide_eq_true_eq, decide_eq_false_iff_not, Bool.not_eq_true', Bool.not_eq_false', Bool.and_eq_true, Bool.or_eq_true, Int.not_lt, Int.not_le] at hd)); (try (simp (disch := first | omega | (simp <;> omega) | fail) only [push_cast, ↓reduceIte, Nat.reduceEqDiff, Nat.reduceAdd, Nat.reduceMul, Nat.reduceSub, Nat.reduceLT, Int.reduceToNat]))
        rw [hf (by unfold okByte; simp only [Bool.and_eq_false_iff, decide_eq_false_iff_not]; omega)]
      · (try (simp only [decide_eq_true_eq, decide_eq_false_iff_not, Bool.not_eq_true', Bool.not_eq_false', Bool.and_eq_true, Bool.or_eq_true, Int.not_lt, Int.not_le] at hd)); (try (simp (disch := first | omega | (simp <;> omega) | fail) only [push_cast, ↓reduceIte, Nat.reduceEqDiff, Nat.reduceAdd, Nat.reduceMul, Nat.reduceSub, Nat.reduceLT, Int.reduceToNat]))
        (try (simp (disch := first | omega | (simp <;> omega) | fail) only [push_cast, ↓reduceIte, Nat.reduceEqDiff, Nat.reduceAdd, Nat.reduceMul, Nat.reduceSub, Nat.reduceLT, Int.reduceToNat]))
        rw [hn]
        unfold okByte
        simp only [Bool.and_eq_true, decide_eq_true_eq]
        omega
  · (try (simp only [decide_eq_true_eq, decide_eq_false_iff_not, Bool.not_eq_true', Bool.not_eq_false', Bool.and_eq_true, Bool.or_eq_true, Int.not_lt, Int.not_le] at hc)); (try (simp (disch := first | omega | (simp <;> omega) | fail) only [push_cast, ↓reduceIte, Nat.reduceEqDiff, Nat.reduceAdd, Nat.reduceMul, Nat.reduceSub, Nat.reduceLT, Int.reduceToNat]))
    have he : s.take i = s := List.take_of_length_le (by omega)
    rw [he] at ha
    have hk : okKey s = (decide (1 ≤ (s.length : Int)) && decide ((s.length : Int) ≤ 12)) := by
      unfold okKey
      rw [ha, Bool.true_and]
    rw [hk]
    refine (c_spec_l1In _ _ _).call ?_
    (try (simp (disch := first | omega | (simp <;> omega) | fail) only [push_cast, ↓reduceIte, Nat.reduceEqDiff, Nat.reduceAdd, Nat.reduceMul, Nat.reduceSub, Nat.reduceLT, Int.reduceToNat]))

theorem c_spec_biKeys (a : Option (List Str)) : Fn Tryz.prog 40 [eS a] (· = .bool (okKeys (lS a))) := by
  refine Fn.of free_bool fun h => ?_
  refine enter (by kernel_rfl) e40 (by kernel_rfl) rfl fun hok => ?_
  simp only [r40, initEnv_1]
  have hlen := ok_eS (okV_0 hok)
  (try (simp (disch := first | omega | (simp <;> omega) | fail) only [push_cast, ↓reduceIte, Nat.reduceEqDiff, Nat.reduceAdd, Nat.reduceMul, Nat.reduceSub, Nat.reduceLT, Int.reduceToNat]))
  refine T_for (lS a).length (fun i e h' => Pins e [(0, eS a), (5, eS a), (6, .int .i64 (lS a).length), (7, .int .i64 i)] ∧ h' = h ∧ okKeysFrom (lS a) i = true) ?_ ?_
  · (try (simp (disch := first | omega | (simp <;> omega) | fail) only [push_cast, ↓reduceIte, Nat.reduceEqDiff, Nat.reduceAdd, Nat.reduceMul, Nat.reduceSub, Nat.reduceLT, Int.reduceToNat]))
    simp [okKeysFrom]
  rintro i e h' hi ⟨hp, rfl, ha⟩
  refine T_pins hp fun e => ?_
  (try (simp (disch := first | omega | (simp <;> omega) | fail) only [push_cast, ↓reduceIte, Nat.reduceEqDiff, Nat.reduceAdd, Nat.reduceMul, Nat.reduceSub, Nat.reduceLT, Int.reduceToNat]))
  first | refine goC_split (fun hc => ?_) (fun hc => ?_) | refine cnd_split (fun hc => ?_) (fun hc => ?_)
  · (try (simp only [decide_eq_true_eq, decide_eq_false_iff_not, Bool.not_eq_true', Bool.not_eq_false', Bool.and_eq_true, Bool.or_eq_true, Int.not_lt, Int.not_le] at hc)); (try (simp (disch := first | omega | (simp <;> omega) | fail) only [push_cast, ↓reduceIte, Nat.reduceEqDiff, Nat.reduceAdd, Nat.reduceMul, Nat.reduceSub, Nat.reduceLT, Int.reduceToNat]))
    have hi : i < (lS a).length := by omega
    have hf : okKeysFrom (lS a) (i + 1) = false → okKeys (lS a) = false := fun hf => by
      unfold okKeys
      rw [okKeysFrom_false (show i + 1 ≤ (lS a).length by omega) hf, Bool.false_and]
    (try (simp (disch := first | omega | (simp <;> omega) | fail) only [push_cast, ↓reduceIte, Nat.reduceEqDiff, Nat.reduceAdd, Nat.reduceMul, Nat.reduceSub, Nat.reduceLT, Int.reduceToNat]))
    refine (c_spec_IsKey _).call ?_
    (try (simp (disch := first | omega | (simp <;> omega) | fail) only [push_cast, ↓reduceIte, Nat.reduceEqDiff, Nat.reduceAdd, Nat.reduceMul, Nat.reduceSub, Nat.reduceLT, Int.reduceToNat]))
    cases hk : okKey ((lS a).getD i [])
    · (try (simp (disch := first | omega | (simp <;> omega) | fail) only [push_cast, ↓reduceIte, Nat.reduceEqDiff, Nat.reduceAdd, Nat.reduceMul, Nat.reduceSub, Nat.reduceLT, Int.reduceToNat]))
      rw [hf (by simp only [okKeysFrom, hk, Bool.false_and, Bool.and_false])]
    · (try (simp (disch := first | omega | (simp <;> omega) | fail) only [push_cast, ↓reduceIte, Nat.reduceEqDiff, Nat.reduceAdd, Nat.reduceMul, Nat.reduceSub, Nat.reduceLT, Int.reduceToNat]))
      first | refine goC_split (fun hc => ?_) (fun hc => ?_) | refine cnd_split (fun hc => ?_) (fun hc => ?_)
      · (try (simp only [decide_eq_true_eq, decide_eq_false_iff_not, Bool.not_eq_true', Bool.not_eq_false', Bool.and_eq_true, Bool.or_eq_true, Int.not_lt, Int.not_le] at hc)); (try (simp (disch := first | omega | (simp <;> omega) | fail) only [push_cast, ↓reduceIte, Nat.reduceEqDiff, Nat.reduceAdd, Nat.reduceMul, Nat.reduceSub, Nat.reduceLT, Int.reduceToNat]))
        (try (simp (disch := first | omega | (simp <;> omega) | fail) only [push_cast, ↓reduceIte, Nat.reduceEqDiff, Nat.reduceAdd, Nat.reduceMul, Nat.reduceSub, Nat.reduceLT, Int.reduceToNat]))
        first | refine goC_split (fun hd => ?_) (fun hd => ?_) | refine cnd_split (fun hd => ?_) (fun hd => ?_)
        · (try (simp (disch := first | omega | (simp <;> omega) | fail) only [push_cast, ↓reduceIte, Nat.reduceEqDiff, Nat.reduceAdd, Nat.reduceMul, Nat.reduceSub, Nat.reduceLT, Int.reduceToNat]))
          rw [hf (by
            rw [Bool.not_eq_true'] at hd
            simp only [okKeysFrom, hk, Bool.true_and, show i ≠ 0 by omega, decide_false, Bool.false_or, hd, Bool.and_false])]
        · (try (simp (disch := first | omega | (simp <;> omega) | fail) only [push_cast, ↓reduceIte, Nat.reduceEqDiff, Nat.reduceAdd, Nat.reduceMul, Nat.reduceSub, Nat.reduceLT, Int.reduceToNat]))
          rw [Bool.not_eq_false'] at hd
          simp only [okKeysFrom, ha, hk, Bool.true_and, hd, Bool.or_true]
      · (try (simp only [decide_eq_true_eq, decide_eq_false_iff_not, Bool.not_eq_true', Bool.not_eq_false', Bool.and_eq_true, Bool.or_eq_true, Int.not_lt, Int.not_le] at hc)); (try (simp (disch := first | omega | (simp <;> omega) | fail) only [push_cast, ↓reduceIte, Nat.reduceEqDiff, Nat.reduceAdd, Nat.reduceMul, Nat.reduceSub, Nat.reduceLT, Int.reduceToNat]))
        (try (simp (disch := first | omega | (simp <;> omega) | fail) only [push_cast, ↓reduceIte, Nat.reduceEqDiff, Nat.reduceAdd, Nat.reduceMul, Nat.reduceSub, Nat.reduceLT, Int.reduceToNat]))
        have : i = 0 := by omega
        subst this
        simp only [okKeysFrom, hk, Bool.true_and, decide_true, Bool.true_or]
  · (try (simp only [decide_eq_true_eq, decide_eq_false_iff_not, Bool.not_eq_true', Bool.not_eq_false', Bool.and_eq_true, Bool.or_eq_true, Int.not_lt, Int.not_le] at hc)); (try (simp (disch := first | omega | (simp <;> omega) | fail) only [push_cast, ↓reduceIte, Nat.reduceEqDiff, Nat.reduceAdd, Nat.reduceMul, Nat.reduceSub, Nat.reduceLT, Int.reduceToNat]))
    have he : i = (lS a).length := by omega
    subst he
    have hk : okKeys (lS a) = decide (((lS a).length : Int) ≤ 40) := by
      unfold okKeys
      rw [ha, Bool.true_and]
    rw [hk]
    (first | refine goC_split (fun hc => ?_) (fun hc => ?_) | refine cnd_split (fun hc => ?_) (fun hc => ?_)) <;> ((try (simp (disch := first | omega | (simp <;> omega) | fail) only [push_cast, ↓reduceIte, Nat.reduceEqDiff, Nat.reduceAdd, Nat.reduceMul, Nat.reduceSub, Nat.reduceLT, Int.reduceToNat]))) <;> (try rw [hc])

theorem c_spec_trNodes (o : Option (List Str)) (hl : (lS o).length ≤ 40) : Fn Tryz.prog 88 [eS o] (· = eS (some (nodesK (lS o)))) := by
  refine Fn.froze fun h => ?_
  refine enter (by kernel_rfl) e88 (by kernel_rfl) rfl fun hok => ?_
  simp only [r88, initEnv_1]
  (try (simp (disch := first | omega | (simp <;> omega) | fail) only [push_cast, ↓reduceIte, Nat.reduceEqDiff, Nat.reduceAdd, Nat.reduceMul, Nat.reduceSub, Nat.reduceLT, Int.reduceToNat]))
  refine T_for 12 (fun n e h' => ∃ v, Pins e [(0, eS o), (3, v), (4, .int .i64 ((n : Int) + 1))] ∧ GsI AV.str h.length h' v (nodesTo (lS o) n)) ?_ ?_
  · refine ⟨.sl h.length 0 1 1 1, ?_⟩
    (try (simp (disch := first | omega | (simp <;> omega) | fail) only [push_cast, ↓reduceIte, Nat.reduceEqDiff, Nat.reduceAdd, Nat.reduceMul, Nat.reduceSub, Nat.reduceLT, Int.reduceToNat]))
    all_goals (try exact GsI.single (Nat.le_refl _))
  rintro n e h' hn ⟨v, hp, hs⟩
  refine T_pins hp fun e => ?_
  have hnl := nodesTo_len (K := lS o) (n := n)
  have hnm : n * (lS o).length ≤ 12 * 40 := Nat.mul_le_mul hn hl
  (try (simp (disch := first | omega | (simp <;> omega) | fail) only [push_cast, ↓reduceIte, Nat.reduceEqDiff, Nat.reduceAdd, Nat.reduceMul, Nat.reduceSub, Nat.reduceLT, Int.reduceToNat]))
  first | refine goC_split (fun hc => ?_) (fun hc => ?_) | refine cnd_split (fun hc => ?_) (fun hc => ?_)
  · (try (simp only [decide_eq_true_eq, decide_eq_false_iff_not, Bool.not_eq_true', Bool.not_eq_false', Bool.and_eq_true, Bool.or_eq_true, Int.not_lt, Int.not_le] at hc)); (try (simp (disch := first | omega | (simp <;> omega) | fail) only [push_cast, ↓reduceIte, Nat.reduceEqDiff, Nat.reduceAdd, Nat.reduceMul, Nat.reduceSub, Nat.reduceLT, Int.reduceToNat]))
    (try (simp (disch := first | omega | (simp <;> omega) | fail) only [push_cast, ↓reduceIte, Nat.reduceEqDiff, Nat.reduceAdd, Nat.reduceMul, Nat.reduceSub, Nat.reduceLT, Int.reduceToNat]))
    refine T_for (lS o).length (fun i e h' => ∃ v, Pins e [(0, eS o), (3, v), (4, .int .i64 ((n : Int) + 1)), (12, eS o), (13, .int .i64 (lS o).length), (14, .int .i64 i)] ∧ GsI AV.str h.length h' v (((lS o).take i).foldl (ndS (n + 1)) (nodesTo (lS o) n))) ?_ ?_
    · refine ⟨v, ?_⟩
      (try (simp (disch := first | omega | (simp <;> omega) | fail) only [push_cast, ↓reduceIte, Nat.reduceEqDiff, Nat.reduceAdd, Nat.reduceMul, Nat.reduceSub, Nat.reduceLT, Int.reduceToNat]))
      all_goals (try exact hs)
    rintro i e h' hi ⟨v, hp, hs⟩
    refine T_pins hp fun e => ?_
    have hlen := hs.len
    have hll := ndS_foldl_len (n := n + 1) (K := (lS o).take i) (out := nodesTo (lS o) n)
    have hne := foldl_ndS_ne (n := n + 1) (K := (lS o).take i) (nodesTo_ne (K := lS o) (n := n))
    rw [List.length_take] at hll
    (try (simp (disch := first | omega | (simp <;> omega) | fail) only [push_cast, ↓reduceIte, Nat.reduceEqDiff, Nat.reduceAdd, Nat.reduceMul, Nat.reduceSub, Nat.reduceLT, Int.reduceToNat]))
    first | refine goC_split (fun hc => ?_) (fun hc => ?_) | refine cnd_split (fun hc => ?_) (fun hc => ?_)
    · (try (simp only [decide_eq_true_eq, decide_eq_false_iff_not, Bool.not_eq_true', Bool.not_eq_false', Bool.and_eq_true, Bool.or_eq_true, Int.not_lt, Int.not_le] at hc)); (try (simp (disch := first | omega | (simp <;> omega) | fail) only [push_cast, ↓reduceIte, Nat.reduceEqDiff, Nat.reduceAdd, Nat.reduceMul, Nat.reduceSub, Nat.reduceLT, Int.reduceToNat]))
      have hi2 : i < (lS o).length := by omega
      have hnx := foldl_take (f := ndS (n + 1)) (b := nodesTo (lS o) n) (d := []) hi2
      obtain ⟨L, hL⟩ : ∃ L, L = ((lS o).take i).foldl (ndS (n + 1)) (nodesTo (lS o) n) := ⟨_, rfl⟩
      obtain ⟨s, hs0⟩ : ∃ s, s = (lS o).getD i [] := ⟨_, rfl⟩
      rw [← hL, ← hs0] at hnx
      rw [← hL] at hs hlen hll hne
      have hLp := List.length_pos_iff.2 hne
      by_cases h1 : n + 1 ≤ s.length
      · obtain ⟨b, hv, hb, hcb⟩ := hs.at_ hne
        have hge : ((s.length : Int) ≥ (n : Int) + 1) = True := by simp; omega
        have hia : iaddrA 1 v (.int .i64 ((L.length : Int) - 1)) = some (.adr b (L.length - 1)) := by
          rw [hv, iaddrA_sl (by omega) (by omega)]
          congr 2
          omega
        have hget : (L.map AV.str)[L.length - 1]? = some (.str (L.getLastD [])) := by
          rw [← getLast_getD (d := [])]
          simp [show L.length - 1 < L.length by omega]
        have htk : List.take (n + 1 - 0) (List.drop 0 s) = List.take (n + 1) s := by simp
        by_cases h2 : s.take (n + 1) = L.getLastD []
        · have hn2 : ndS (n + 1) L s = L := by
            unfold ndS
            rw [if_neg (fun h5 => h5.2 h2)]
          rw [hn2] at hnx
          have hs2 := hs
          rw [← hnx] at hs2
          (try (simp (disch := first | omega | (simp <;> omega) | fail) only [push_cast, ↓reduceIte, Nat.reduceEqDiff, Nat.reduceAdd, Nat.reduceMul, Nat.reduceSub, Nat.reduceLT, Int.reduceToNat, hlen, hia, hcb, hget, htk, h2, hlen, ← hs0]))
          all_goals (try exact ⟨_, rfl, hs2⟩)
          all_goals (try exact hs2)
        · have hn2 : ndS (n + 1) L s = L ++ [s.take (n + 1)] := by
            unfold ndS
            rw [if_pos ⟨h1, h2⟩]
          rw [hn2] at hnx
          (try (simp (disch := first | omega | (simp <;> omega) | fail) only [push_cast, ↓reduceIte, Nat.reduceEqDiff, Nat.reduceAdd, Nat.reduceMul, Nat.reduceSub, Nat.reduceLT, Int.reduceToNat, hia, hcb, hget, htk, h2, hlen, ← hs0]))
          refine hs.app (by_ := 16) (fun c hc => Or.inr hc) (by omega) (by decide) fun v' h'' q1 q2 q3 => ?_
          rw [← hnx] at q1
          (try (simp (disch := first | omega | (simp <;> omega) | fail) only [push_cast, ↓reduceIte, Nat.reduceEqDiff, Nat.reduceAdd, Nat.reduceMul, Nat.reduceSub, Nat.reduceLT, Int.reduceToNat]))
          all_goals (try exact ⟨_, rfl, q1⟩)
          all_goals (try exact q1)
      · have hn2 : ndS (n + 1) L s = L := by
          unfold ndS
          rw [if_neg (fun h5 => h1 h5.1)]
        rw [hn2] at hnx
        have hs2 := hs
        rw [← hnx] at hs2
        have hlt : ¬ ((n : Int) + 1 ≤ (s.length : Int)) := by omega
        (try (simp (disch := first | omega | (simp <;> omega) | fail) only [push_cast, ↓reduceIte, Nat.reduceEqDiff, Nat.reduceAdd, Nat.reduceMul, Nat.reduceSub, Nat.reduceLT, Int.reduceToNat, hlt, ← hs0]))
        all_goals (try exact ⟨_, rfl, hs2⟩)
        all_goals (try exact hs2)
    · (try (simp only [decide_eq_true_eq, decide_eq_false_iff_not, Bool.not_eq_true', Bool.not_eq_false', Bool.and_eq_true, Bool.or_eq_true, Int.not_lt, Int.not_le] at hc)); (try (simp (disch := first | omega | (simp <;> omega) | fail) only [push_cast, ↓reduceIte, Nat.reduceEqDiff, Nat.reduceAdd, Nat.reduceMul, Nat.reduceSub, Nat.reduceLT, Int.reduceToNat]))
      have hie : i = (lS o).length := by omega
      subst hie
      rw [List.take_length] at hs
      (try (simp (disch := first | omega | (simp <;> omega) | fail) only [push_cast, ↓reduceIte, Nat.reduceEqDiff, Nat.reduceAdd, Nat.reduceMul, Nat.reduceSub, Nat.reduceLT, Int.reduceToNat]))
      all_goals (try exact ⟨_, rfl, hs⟩)
      all_goals (try exact hs)
  · (try (simp only [decide_eq_true_eq, decide_eq_false_iff_not, Bool.not_eq_true', Bool.not_eq_false', Bool.and_eq_true, Bool.or_eq_true, Int.not_lt, Int.not_le] at hc)); (try (simp (disch := first | omega | (simp <;> omega) | fail) only [push_cast, ↓reduceIte, Nat.reduceEqDiff, Nat.reduceAdd, Nat.reduceMul, Nat.reduceSub, Nat.reduceLT, Int.reduceToNat]))
    have hie : n = 12 := by omega
    subst hie
    obtain ⟨b, rfl, hb, hcb⟩ := hs.at_ nodesTo_ne
    (try (simp (disch := first | omega | (simp <;> omega) | fail) only [push_cast, ↓reduceIte, Nat.reduceEqDiff, Nat.reduceAdd, Nat.reduceMul, Nat.reduceSub, Nat.reduceLT, Int.reduceToNat]))
    exact vw_all hb hcb (by rw [List.length_map, Nat.mul_one]; rfl) (one_map fun _ => rfl) (free_map_ fun _ => free_str)

theorem c_spec_trBegins (s w : Str) (hl : s.length ≤ 1000000000) (hw : w.length ≤ 1000000000) : Fn Tryz.prog 89 [.str s, .str w] (· = .bool (decide (w.length ≤ s.length) && decide (s.take w.length = w))) := by
  refine Fn.of free_bool fun h => ?_
  refine enter (by kernel_rfl) e89 (by kernel_rfl) rfl fun hok => ?_
  simp only [r89, initEnv_2]
  (try (simp (disch := first | omega | (simp <;> omega) | fail) only [push_cast, ↓reduceIte, Nat.reduceEqDiff, Nat.reduceAdd, Nat.reduceMul, Nat.reduceSub, Nat.reduceLT, Int.reduceToNat]))
  first | refine goC_split (fun hc => ?_) (fun hc => ?_) | refine cnd_split (fun hc => ?_) (fun hc => ?_)
  · (try (simp only [decide_eq_true_eq, decide_eq_false_iff_not, Bool.not_eq_true', Bool.not_eq_false', Bool.and_eq_true, Bool.or_eq_true, Int.not_lt, Int.not_le] at hc)); (try (simp (disch := first | omega | (simp <;> omega) | fail) only [push_cast, ↓reduceIte, Nat.reduceEqDiff, Nat.reduceAdd, Nat.reduceMul, Nat.reduceSub, Nat.reduceLT, Int.reduceToNat]))
    have hc2 : w.length ≤ s.length := by omega
    by_cases he : s.take w.length = w
    · (try (simp (disch := first | omega | (simp <;> omega) | fail) only [push_cast, ↓reduceIte, Nat.reduceEqDiff, Nat.reduceAdd, Nat.reduceMul, Nat.reduceSub, Nat.reduceLT, Int.reduceToNat, List.drop_zero, Nat.sub_zero, he]))
      all_goals (try simp [hc2])
    · (try (simp (disch := first | omega | (simp <;> omega) | fail) only [push_cast, ↓reduceIte, Nat.reduceEqDiff, Nat.reduceAdd, Nat.reduceMul, Nat.reduceSub, Nat.reduceLT, Int.reduceToNat, List.drop_zero, Nat.sub_zero, he]))
      all_goals (try simp [hc2])
  · (try (simp only [decide_eq_true_eq, decide_eq_false_iff_not, Bool.not_eq_true', Bool.not_eq_false', Bool.and_eq_true, Bool.or_eq_true, Int.not_lt, Int.not_le] at hc)); (try (simp (disch := first | omega | (simp <;> omega) | fail) only [push_cast, ↓reduceIte, Nat.reduceEqDiff, Nat.reduceAdd, Nat.reduceMul, Nat.reduceSub, Nat.reduceLT, Int.reduceToNat]))
    have hc2 : ¬ w.length ≤ s.length := by omega
    all_goals (try simp [hc2])

theorem c_spec_l1HasS (o : Option (List Str)) (s : Str) : Fn Tryz.prog 90 [eS o, .str s] (· = .bool (decide (s ∈ lS o))) := by
  refine Fn.of free_bool fun h => ?_
  refine enter (by kernel_rfl) e90 (by kernel_rfl) rfl fun hok => ?_
  simp only [r90, initEnv_2]
  have hlen := ok_eS (okV_0 hok)
  (try (simp (disch := first | omega | (simp <;> omega) | fail) only [push_cast, ↓reduceIte, Nat.reduceEqDiff, Nat.reduceAdd, Nat.reduceMul, Nat.reduceSub, Nat.reduceLT, Int.reduceToNat]))
  refine T_for (lS o).length (fun i e h' => Pins e [(1, .str s), (7, eS o), (8, .int .i64 (lS o).length), (9, .int .i64 i)] ∧ h' = h ∧ s ∉ (lS o).take i) ?_ ?_
  · (try (simp (disch := first | omega | (simp <;> omega) | fail) only [push_cast, ↓reduceIte, Nat.reduceEqDiff, Nat.reduceAdd, Nat.reduceMul, Nat.reduceSub, Nat.reduceLT, Int.reduceToNat]))
    all_goals (try simp)
  rintro i e h' hi ⟨hp, rfl, ha⟩
  refine T_pins hp fun e => ?_
  (try (simp (disch := first | omega | (simp <;> omega) | fail) only [push_cast, ↓reduceIte, Nat.reduceEqDiff, Nat.reduceAdd, Nat.reduceMul, Nat.reduceSub, Nat.reduceLT, Int.reduceToNat]))
  first | refine goC_split (fun hc => ?_) (fun hc => ?_) | refine cnd_split (fun hc => ?_) (fun hc => ?_)
  · (try (simp only [decide_eq_true_eq, decide_eq_false_iff_not, Bool.not_eq_true', Bool.not_eq_false', Bool.and_eq_true, Bool.or_eq_true, Int.not_lt, Int.not_le] at hc)); (try (simp (disch := first | omega | (simp <;> omega) | fail) only [push_cast, ↓reduceIte, Nat.reduceEqDiff, Nat.reduceAdd, Nat.reduceMul, Nat.reduceSub, Nat.reduceLT, Int.reduceToNat]))
    have hi2 : i < (lS o).length := by omega
    have htk : (lS o).take (i + 1) = (lS o).take i ++ [(lS o).getD i []] := by
      rw [List.take_add_one]
      simp [hi2]
    by_cases hx : (lS o).getD i [] = s
    · have hm : decide (s ∈ lS o) = true := by
        rw [decide_eq_true_eq, ← hx]
        simp [hi2]
      rw [hm]
      (try (simp (disch := first | omega | (simp <;> omega) | fail) only [push_cast, ↓reduceIte, Nat.reduceEqDiff, Nat.reduceAdd, Nat.reduceMul, Nat.reduceSub, Nat.reduceLT, Int.reduceToNat, hx]))
    · have hn : s ∉ (lS o).take (i + 1) := by
        rw [htk, List.mem_append, List.mem_singleton]
        exact fun h5 => h5.elim ha fun h7 => hx h7.symm
      (try (simp (disch := first | omega | (simp <;> omega) | fail) only [push_cast, ↓reduceIte, Nat.reduceEqDiff, Nat.reduceAdd, Nat.reduceMul, Nat.reduceSub, Nat.reduceLT, Int.reduceToNat, hx]))
      all_goals (try exact hn)
  · (try (simp only [decide_eq_true_eq, decide_eq_false_iff_not, Bool.not_eq_true', Bool.not_eq_false', Bool.and_eq_true, Bool.or_eq_true, Int.not_lt, Int.not_le] at hc)); (try (simp (disch := first | omega | (simp <;> omega) | fail) only [push_cast, ↓reduceIte, Nat.reduceEqDiff, Nat.reduceAdd, Nat.reduceMul, Nat.reduceSub, Nat.reduceLT, Int.reduceToNat]))
    have hie : i = (lS o).length := by omega
    subst hie
    rw [List.take_length] at ha
    have hm : decide (s ∈ lS o) = false := by simp [ha]
    rw [hm]
    (try (simp (disch := first | omega | (simp <;> omega) | fail) only [push_cast, ↓reduceIte, Nat.reduceEqDiff, Nat.reduceAdd, Nat.reduceMul, Nat.reduceSub, Nat.reduceLT, Int.reduceToNat]))

/-- Bits of the call's own, as they are seen. -/
theorem vw_B {h : H} {n0 b len : Nat} {n : Int} {ws : List Int} (hb : n0 ≤ b) (hc : h.cells b = some (ws.map (.int .i64))) (hl : ws.length = len) : Vw h n0 (.agg [.int .i64 n, .sl b 0 1 len len]) (eB ⟨n, some ws⟩) := by
  subst hl
  refine .agg rfl (fun i y t hy ht => ?_)
  rcases i with _ | _ | i
  · simp [cB] at hy ht
    subst hy ht
    exact .free free_int
  · simp [cB, eI] at hy ht
    subst hy ht
    exact vw_all (cs := ws.map (.int .i64)) hb hc (by simp) (one_map fun _ => rfl) (free_map_ fun _ => free_int)
  · simp at hy
/-- Bits of the call's own, as a tree. -/
theorem ow_B {h : H} {b len : Nat} {n : Int} {ws : List Int} {G : Nat → Prop} (hb : G b) (hc : h.cells b = some (ws.map (.int .i64))) (hl : ws.length = len) : Ow h [.agg [.int .i64 n, .sl b 0 1 len len]] [eB ⟨n, some ws⟩] G := by
  subst hl
  refine Ow.aggOf (ts := cB ⟨n, some ws⟩) (.atom rfl ?_)
  exact ow_map (f := AV.int .i64) (fun _ => rfl) hc rfl hb
def BnI (h h' : H) (n : Int) (m : Nat) (x : AV) : Prop := ∃ b, x = .agg [.int .i64 n, .sl b 0 1 m m] ∧ h.length ≤ b ∧ (∃ p, h' = h ++ p) ∧ h'.cells b = some ((wordsN 0 m).map (.int .i64))
theorem rep_words {m : Nat} : List.replicate m (AV.int .i64 0) = (wordsN 0 m).map (.int .i64) := by
  rw [wordsN_zero]
  simp
def leadI (n B : Nat) : Int := if lead n B < n then (lead n B : Int) else -1
theorem noBit_all {B n : Nat} (h : noBit B n = true) {j : Nat} (hj : j < n) : B.testBit j = false := by
  unfold noBit at h
  have := List.all_eq_true.1 h j (List.mem_range.2 hj)
  simpa using this

theorem c_spec_biNew_own (n m : Nat) (hn : n ≤ 1000000) (hm : (((n : Int) + 15) / 16) = (m : Int)) (h : H) : Call Tryz.prog 125 [.int .i64 n] h Nowhere (fun x h' => BnI h h' n m x) := by
  refine enter (by kernel_rfl) e125 (by kernel_rfl) rfl fun hok => ?_
  simp only [r125, initEnv_1]
  (try (simp (disch := first | omega | (simp <;> omega) | fail) only [push_cast, ↓reduceIte, Nat.reduceEqDiff, Nat.reduceAdd, Nat.reduceMul, Nat.reduceSub, Nat.reduceLT, Int.reduceToNat, hm]))
  all_goals (try exact ⟨h.length + 1, rfl, by omega, ⟨_, rfl⟩, by rw [cells_hk]; simp [cellsO, rep_words]⟩)
theorem c_spec_biNew (n m : Nat) (hn : n ≤ 1000000) (hm : (((n : Int) + 15) / 16) = (m : Int)) : Fn Tryz.prog 125 [.int .i64 n] (· = eB ⟨n, some (wordsN 0 m)⟩) :=
  Fn.froze_ fun h => (c_spec_biNew_own n m hn hm h).mono (fun x h' hx => by
    obtain ⟨b, rfl, hb, _, hc⟩ := hx
    exact ⟨_, vw_B hb hc wordsN_len, rfl⟩) (fun _ _ h => h)

theorem c_spec_biSet (n : Int) (b m B i : Nat) (h : H) (hc : h.cells b = some ((wordsN B m).map (.int .i64))) (hi : i < 16 * m) (hm : m ≤ 100000) :
    Call Tryz.prog 126 [.agg [.int .i64 n, .sl b 0 1 m m], .int .i64 i] h (fun b' => b' = b) (fun x h' => h.length ≤ h'.length ∧ (∀ b', b' < h.length → b' ≠ b → h'[b']? = h[b']?) ∧ h'.cells b = some ((wordsN (B ||| 2 ^ i) m).map (.int .i64))) := by
  refine enter (by kernel_rfl) e126 (by kernel_rfl) rfl fun hok => ?_
  simp only [r126, initEnv_2]
  have hb := cells_lt hc
  have hcb : ∀ l : H, H.cells (h ++ l) b = some ((wordsN B m).map (.int .i64)) := fun l => cells_app hc
  have e1 : ((i : Int) / 16).toNat = i / 16 := by omega
  have e2 : ((i : Int) % 16).toNat = i % 16 := by omega
  have hgd := wordsN_get (B := B) (m := m) (k := i / 16) (by omega)
  have hwl := wordN_lt (B := B) (k := i / 16)
  obtain ⟨v, hv⟩ : ∃ v : Nat, v = 2 ^ (i % 16) := ⟨_, rfl⟩
  have hvl : v < 65536 := by
    rw [hv]
    have : 2 ^ (i % 16) < 2 ^ 16 := Nat.pow_lt_pow_right (by decide) (by omega)
    simpa using this
  have hsh := shl16 (j := i % 16) (by omega)
  rw [← hv] at hsh
  obtain ⟨r, hr⟩ : ∃ r : Nat, r = wordN B (i / 16) ||| v := ⟨_, rfl⟩
  have hor := bitsI_or (x := wordN B (i / 16)) (y := v) (by omega) (by omega)
  rw [← hr] at hor
  have hset : ((wordsN B m).map (AV.int .i64)).set (i / 16) (.int .i64 (r : Int)) = (wordsN (B ||| 2 ^ i) m).map (.int .i64) := by
    rw [← wordsN_set hi, ← hv, ← hr, List.map_set]
  have hlen : ((wordsN B m).map (AV.int .i64)).length = m := by simp [wordsN_len]
  have hgi : ((wordsN B m).map (AV.int .i64))[i / 16]? = some (.int .i64 (wordN B (i / 16) : Int)) := by
    rw [get_I (by rw [wordsN_len]; omega), hgd]
  have hos : over ((wordsN B m).map (AV.int .i64)) (i / 16) [.int .i64 (r : Int)] = (wordsN (B ||| 2 ^ i) m).map (.int .i64) := by
    rw [over_set (by rw [hlen]; omega), hset]
  have hpm : (b = b) = True := by simp
  (try (simp (disch := first | omega | (simp <;> omega) | fail) only [push_cast, ↓reduceIte, Nat.reduceEqDiff, Nat.reduceAdd, Nat.reduceMul, Nat.reduceSub, Nat.reduceLT, Int.reduceToNat, hcb, e1, e2, hgi, hsh, hor, hlen, hos, hpm, reads, List.not_mem_nil, not_false_eq_true]))
  all_goals (try exact ⟨by simp [wr], fun b' h1 h2 => by unfold wr; rw [List.getElem?_set_ne (Ne.symm h2), List.getElem?_append_left h1], by rw [cells_wr2 (by simp; omega)]⟩)

/-- A vector of a list of bits, in memory of the call's own. -/
theorem c_spec_biSome (o : Option (List Bool)) (m : Nat) (hm : ((((lO o).length : Int)) + 15) / 16 = (m : Int)) (hl : (lO o).length ≤ 5000) (h : H) : Call Tryz.prog 75 [eO o] h Nowhere (fun x h' => ∃ bb, x = .agg [.int .i64 (lO o).length, .sl bb 0 1 m m] ∧ h.length ≤ bb ∧ h.length ≤ h'.length ∧ (∀ c, c < h.length → h'[c]? = h[c]?) ∧ h'.cells bb = some ((wordsN (bitN (lO o) (lO o).length) m).map (.int .i64))) := by
  refine enter (by kernel_rfl) e75 (by kernel_rfl) rfl fun hok => ?_
  simp only [r75, initEnv_1]
  (try (simp (disch := first | omega | (simp <;> omega) | fail) only [push_cast, ↓reduceIte, Nat.reduceEqDiff, Nat.reduceAdd, Nat.reduceMul, Nat.reduceSub, Nat.reduceLT, Int.reduceToNat]))
  refine (c_spec_biNew_own (lO o).length m (by omega) hm _).mono (fun x h1 hx => ?_) (fun _ _ h => h.elim)
  obtain ⟨bb, rfl, hbb, ⟨p, hp1⟩, hcb⟩ := hx
  simp only [List.length_append, List.length_cons, List.length_nil] at hbb
  have hl1 : h.length + 1 ≤ h1.length := by rw [hp1]; simp
  have hk1 : ∀ c, c < h.length → h1[c]? = h[c]? := fun c hc => by
    rw [hp1, List.append_assoc]
    exact List.getElem?_append_left hc
  have hc0 : h1.cells h.length = some [.int .i64 0, .nils] := by
    rw [hp1]
    refine cells_app ?_
    rw [cells_h0]
    rfl
  have hbl1 := cells_lt hcb
  clear hp1
  (try (simp (disch := first | omega | (simp <;> omega) | fail) only [push_cast, ↓reduceIte, Nat.reduceEqDiff, Nat.reduceAdd, Nat.reduceMul, Nat.reduceSub, Nat.reduceLT, Int.reduceToNat]))
  refine T_for (lO o).length (fun i e h' => Pins e [(2, .adr h.length 0), (3, .adr h1.length 0), (9, eO o), (10, .int .i64 (lO o).length), (11, .int .i64 i)] ∧ h1.length < h'.length ∧ (∀ c, c < h.length → h'[c]? = h[c]?) ∧ h'.cells h.length = some [.int .i64 0, .nils] ∧ h'.cells h1.length = some [.int .i64 (lO o).length, .sl bb 0 1 m m] ∧ h'.cells bb = some ((wordsN (bitN (lO o) i) m).map (.int .i64))) ?_ ?_
  · (try (simp (disch := first | omega | (simp <;> omega) | fail) only [push_cast, ↓reduceIte, Nat.reduceEqDiff, Nat.reduceAdd, Nat.reduceMul, Nat.reduceSub, Nat.reduceLT, Int.reduceToNat]))
    all_goals (try exact ⟨by simp, fun c hc => (List.getElem?_append_left (by omega)).trans (hk1 c hc), cells_app hc0, cells_app hcb⟩)
    all_goals (try exact ⟨fun c hc => (List.getElem?_append_left (by omega)).trans (hk1 c hc), hc0, hcb⟩)
    all_goals (try exact ⟨by simp, fun c hc => (List.getElem?_append_left (by omega)).trans (hk1 c hc), cells_app hc0, by rw [cells_h0]; rfl, cells_app hcb⟩)
  rintro i e h' hi ⟨hp, q1, q2, q3, q4, q5⟩
  refine T_pins hp fun e => ?_
  (try (simp (disch := first | omega | (simp <;> omega) | fail) only [push_cast, ↓reduceIte, Nat.reduceEqDiff, Nat.reduceAdd, Nat.reduceMul, Nat.reduceSub, Nat.reduceLT, Int.reduceToNat]))
  first | refine goC_split (fun hc => ?_) (fun hc => ?_) | refine cnd_split (fun hc => ?_) (fun hc => ?_)
  · (try (simp only [decide_eq_true_eq, decide_eq_false_iff_not, Bool.not_eq_true', Bool.not_eq_false', Bool.and_eq_true, Bool.or_eq_true, Int.not_lt, Int.not_le] at hc)); (try (simp (disch := first | omega | (simp <;> omega) | fail) only [push_cast, ↓reduceIte, Nat.reduceEqDiff, Nat.reduceAdd, Nat.reduceMul, Nat.reduceSub, Nat.reduceLT, Int.reduceToNat]))
    have hi2 : i < (lO o).length := by omega
    cases hb : (lO o).getD i false
    · have q6 := q5
      rw [← bitN_off hb] at q6
      (try (simp (disch := first | omega | (simp <;> omega) | fail) only [push_cast, ↓reduceIte, Nat.reduceEqDiff, Nat.reduceAdd, Nat.reduceMul, Nat.reduceSub, Nat.reduceLT, Int.reduceToNat, hb]))
      all_goals (try exact ⟨q2, q3, q4, q6⟩)
    · (try (simp (disch := first | omega | (simp <;> omega) | fail) only [push_cast, ↓reduceIte, Nat.reduceEqDiff, Nat.reduceAdd, Nat.reduceMul, Nat.reduceSub, Nat.reduceLT, Int.reduceToNat, hb, q4]))
      refine (c_spec_biSet (lO o).length bb m _ i h' q5 (by omega) (by omega)).mono (fun y h2 hy => ?_) (fun b' _ hb' => Or.inr (by omega))
      obtain ⟨y1, y2, y3⟩ := hy
      rw [← bitN_on hb] at y3
      have r2 : ∀ c, c < h.length → h2[c]? = h[c]? := fun c hc => (y2 c (by omega) (by omega)).trans (q2 c hc)
      have r3 := cells_keep (y2 h.length (by omega) (by omega)) q3
      have r4 := cells_keep (y2 h1.length (by omega) (by omega)) q4
      (try (simp (disch := first | omega | (simp <;> omega) | fail) only [push_cast, ↓reduceIte, Nat.reduceEqDiff, Nat.reduceAdd, Nat.reduceMul, Nat.reduceSub, Nat.reduceLT, Int.reduceToNat]))
      all_goals (try exact ⟨r2, r3, r4, y3⟩)
  · (try (simp only [decide_eq_true_eq, decide_eq_false_iff_not, Bool.not_eq_true', Bool.not_eq_false', Bool.and_eq_true, Bool.or_eq_true, Int.not_lt, Int.not_le] at hc)); (try (simp (disch := first | omega | (simp <;> omega) | fail) only [push_cast, ↓reduceIte, Nat.reduceEqDiff, Nat.reduceAdd, Nat.reduceMul, Nat.reduceSub, Nat.reduceLT, Int.reduceToNat]))
    have hie : i = (lO o).length := by omega
    subst hie
    have hw := cells_wr2 (cells_lt q3) (cs := [AV.int .i64 ((lO o).length : Int), .sl bb 0 1 m m])
    have hpm : (h.length ≤ h.length) = True := by simp
    have f1 : h.length ≤ (wr h' h.length [AV.int .i64 ((lO o).length : Int), .sl bb 0 1 m m]).length := by simp [wr]; omega
    have f2 : ∀ c, c < h.length → (wr h' h.length [AV.int .i64 ((lO o).length : Int), .sl bb 0 1 m m])[c]? = h[c]? := fun c hc => by
      unfold wr
      rw [List.getElem?_set_ne (by omega)]
      exact q2 c hc
    have f3 : (wr h' h.length [AV.int .i64 ((lO o).length : Int), .sl bb 0 1 m m]).cells bb = some ((wordsN (bitN (lO o) (lO o).length) m).map (.int .i64)) := by
      rw [cells_eq]
      unfold wr
      rw [List.getElem?_set_ne (by omega), ← cells_eq]
      exact q5
    (try (simp (disch := first | omega | (simp <;> omega) | fail) only [push_cast, ↓reduceIte, Nat.reduceEqDiff, Nat.reduceAdd, Nat.reduceMul, Nat.reduceSub, Nat.reduceLT, Int.reduceToNat, q3, q4, hpm, hw]))
    all_goals (try exact ⟨bb, rfl, by omega, f1, f2, f3⟩)
    all_goals (try exact ⟨bb, rfl, by omega, f2, f3⟩)

/-- Three slices that grow, apart. -/
def G3 (n0 : Nat) (h' : H) (v4 : AV) (L4 : List AV) (v5 : AV) (L5 : List AV) (v6 : AV) (L6 : List AV) : Prop :=
  n0 ≤ h'.length ∧ ∃ B4 B5 B6, (S1 h' 1 v4 L4.length L4 B4 ∧ S1 h' 1 v5 L5.length L5 B5 ∧ S1 h' 1 v6 L6.length L6 B6) ∧ (∀ k ∈ B4, n0 ≤ k ∧ k ∉ B5 ∧ k ∉ B6) ∧ (∀ k ∈ B5, n0 ≤ k ∧ k ∉ B6) ∧ ∀ k ∈ B6, n0 ≤ k
theorem G3.rot {n0 : Nat} {h' : H} {v4 v5 v6 : AV} {L4 L5 L6 : List AV} (hs : G3 n0 h' v4 L4 v5 L5 v6 L6) : G3 n0 h' v5 L5 v6 L6 v4 L4 := by
  obtain ⟨h0, B4, B5, B6, ⟨a, b, c⟩, h4, h5, h6⟩ := hs
  exact ⟨h0, B5, B6, B4, ⟨b, c, a⟩, fun k hk => ⟨(h5 k hk).1, (h5 k hk).2, fun h => (h4 k h).2.1 hk⟩, fun k hk => ⟨h6 k hk, fun h => (h4 k h).2.2 hk⟩, fun k hk => (h4 k hk).1⟩
theorem G3.len {n0 : Nat} {h' : H} {v4 v5 v6 : AV} {L4 L5 L6 : List AV} (hs : G3 n0 h' v4 L4 v5 L5 v6 L6) : lenA v4 = some (.int .i64 L4.length) := by
  obtain ⟨h0, B4, B5, B6, ⟨a, b, c⟩, h4, h5, h6⟩ := hs
  rcases a.2 with ⟨rfl, h0, _⟩ | ⟨b, rfl, _⟩
  · rw [h0]
    rfl
  · rfl
theorem G3.app {n0 by_ : Nat} {h' : H} {v4 v5 v6 x : AV} {L4 L5 L6 : List AV} {pm : Nat → Prop} {Q : AV → H → Prop} (hs : G3 n0 h' v4 L4 v5 L5 v6 L6) (hpm : ∀ c, n0 ≤ c → pm c) (hL : L4.length ≤ 1000000) (hby : by_ ≤ 16)
    (hQ : ∀ v' h'', G3 n0 h'' v' (L4 ++ [x]) v5 L5 v6 L6 → (∀ c, c < n0 → h''[c]? = h'[c]?) → h'.length ≤ h''.length → Q v' h'') : apA pm (h' ++ [some (.cells [x])]) Q 1 by_ (some ([x], 1)) v4 := by
  obtain ⟨hn, B4, B5, B6, ⟨s4, s5, s6⟩, h4, h5, h6⟩ := hs
  have hs2 := s4.frame (h' := h' ++ [some (.cells [x])]) fun c hc => List.getElem?_append_left (s4.lt c hc)
  have hmul : (L4.length + 1) * by_ ≤ 1000001 * 16 := Nat.mul_le_mul (by omega) hby
  refine hs2.app (fun c hc => hpm c (h4 c hc).1) rfl (by decide) (by omega) fun v' h'' B' q1 q2 q3 q4 => ?_
  simp only [List.length_append, List.length_cons, List.length_nil] at q2 q4 q3
  have hk : ∀ c, c < h'.length → c ∉ B4 → h''[c]? = h'[c]? := fun c hc hn => (q3 c (by omega) hn).trans (List.getElem?_append_left hc)
  refine hQ v' h'' ⟨by omega, B', B5, B6, ⟨by simpa using q1, s5.frame fun c hc => hk c (s5.lt c hc) fun h => (h4 c h).2.1 hc, s6.frame fun c hc => hk c (s6.lt c hc) fun h => (h4 c h).2.2 hc⟩, fun k hk2 => ?_, h5, h6⟩ (fun c hc => hk c (by omega) fun h => by have := (h4 c h).1; omega) (by omega)
  rcases q4 k hk2 with h7 | h7
  · exact h4 k h7
  · exact ⟨by omega, fun h => by have := s5.lt k h; omega, fun h => by have := s6.lt k h; omega⟩
theorem G3.nil {n0 : Nat} {h' : H} (hn : n0 ≤ h'.length) : G3 n0 h' .nils [] .nils [] .nils [] := ⟨hn, [], [], [], ⟨S1.nil, S1.nil, S1.nil⟩, by simp, by simp, by simp⟩
theorem G3.frame {n0 : Nat} {h' h2 : H} {v4 v5 v6 : AV} {L4 L5 L6 : List AV} (hs : G3 n0 h' v4 L4 v5 L5 v6 L6) (hk : ∀ k, n0 ≤ k → k < h'.length → h2[k]? = h'[k]?) (hl : h'.length ≤ h2.length) : G3 n0 h2 v4 L4 v5 L5 v6 L6 := by
  obtain ⟨hn, B4, B5, B6, ⟨s4, s5, s6⟩, h4, h5, h6⟩ := hs
  exact ⟨by omega, B4, B5, B6, ⟨s4.frame fun c hc => hk c (h4 c hc).1 (s4.lt c hc), s5.frame fun c hc => hk c (h5 c hc).1 (s5.lt c hc), s6.frame fun c hc => hk c (h6 c hc) (s6.lt c hc)⟩, h4, h5, h6⟩
theorem G3.one {n0 : Nat} {h' : H} {v4 v5 v6 : AV} {L4 L5 L6 : List AV} (hs : G3 n0 h' v4 L4 v5 L5 v6 L6) : ∃ B, S1 h' 1 v4 L4.length L4 B ∧ ∀ k ∈ B, n0 ≤ k := by
  obtain ⟨hn, B4, B5, B6, ⟨s4, s5, s6⟩, h4, h5, h6⟩ := hs
  exact ⟨B4, s4, fun k hk => (h4 k hk).1⟩
theorem S1.vwO {n0 n : Nat} {h' : H} {v : AV} {L : List Bool} {B : List Nat} (hs : S1 h' 1 v (L.map AV.bool).length (L.map .bool) B) (hB : ∀ k ∈ B, n0 ≤ k) (hn : n ≤ n0) (hl : B = B → n0 ≤ h'.length) : ∃ o, Vw h' n v (eO o) ∧ lO o = L :=
  GsI.vwO (n0 := n0) ⟨hl rfl, B, by simpa using hs, hB⟩ hn

theorem ow_bt {h : H} {x : AV} {b : Bt} {G : Nat → Prop} (ho : Ow h [x] [eB b] G) : ∃ w F, x = .agg [.int .i64 b.size, w] ∧ Ow h [w] [eI b.words] F ∧ (∀ c, F c → G c) ∧ one w = true ∧ cellsOf w = [w] ∧ ∀ h' ws, Ow h' [w] [eI ws] F → Ow h' [x] [eB ⟨b.size, ws⟩] G := by
  obtain ⟨cs, rfl, h1⟩ := Ow.openAgg (show Ow h [x] [.agg (cB b)] G from ho)
  have hl : cs.length = 2 := h1.len.symm
  match cs, hl, h1 with
  | [x1, x2], _, h1 =>
    obtain ⟨F, F', f1, f2, f3, f4⟩ := h1.uncons
    have e1 : x1 = .int .i64 b.size := f1.atomOf rfl
    subst e1
    refine ⟨x2, F', rfl, f2, fun c hc => (f4 c hc).1, ?_, ?_, fun h' ws hw => ?_⟩
    · cases hw : b.words with
      | none => rw [hw] at f2; have : x2 = .nils := f2.atomOf rfl; rw [this]; rfl
      | some ws => rw [hw] at f2; obtain ⟨bb, e2⟩ := Ow.sl1 (show Ow h [x2] [.ro 1 _ _] F' from f2); rw [e2]; rfl
    · cases hw : b.words with
      | none => rw [hw] at f2; have : x2 = .nils := f2.atomOf rfl; rw [this]; rfl
      | some ws => rw [hw] at f2; obtain ⟨bb, e2⟩ := Ow.sl1 (show Ow h [x2] [.ro 1 _ _] F' from f2); rw [e2]; rfl
    · exact (Ow.atom rfl (hw.mono fun c hc => (f4 c hc).1)).aggOf

theorem ow_eI {h : H} {x : AV} {w : Option (List Int)} {F : Nat → Prop} (ho : Ow h [x] [eI w] F) : one x = true ∧ cellsOf x = [x] := by
  cases w with
  | none =>
    have : x = .nils := ho.atomOf rfl
    rw [this]
    exact ⟨rfl, rfl⟩
  | some ws =>
    obtain ⟨b, rfl⟩ := Ow.sl1 (show Ow h [x] [.ro 1 _ _] F from ho)
    exact ⟨rfl, rfl⟩

theorem nodesK_cap {K : List Str} (hK : K.length ≤ 40) : (nodesK K).length ≤ 481 := by
  have h1 := nodesTo_len (K := K) (n := 12)
  have h2 : 12 * K.length ≤ 12 * 40 := Nat.mul_le_mul_left _ hK
  show (nodesTo K 12).length ≤ _
  omega
theorem Tri.after {N : List Str} (h : Tri N) {k : Nat} (hk : k < N.length) : (N.drop (k + 1)).filter (chB N[k]) = ch N N[k] := by
  have hsp : N = N.take (k + 1) ++ N.drop (k + 1) := (List.take_append_drop _ _).symm
  unfold ch
  conv => rhs; arg 2; rw [hsp]
  rw [List.filter_append]
  have : (N.take (k + 1)).filter (chB N[k]) = [] := by
    rw [List.filter_eq_nil_iff]
    intro x hx hc
    obtain ⟨j, hj, rfl⟩ := List.mem_iff_getElem.1 hx
    rw [List.length_take] at hj
    rw [List.getElem_take] at hc
    have hl := (chB_iff.1 hc).1
    rcases Nat.lt_or_ge j k with h5 | h5
    · rcases List.pairwise_iff_getElem.1 h.pw j k (by omega) hk h5 with h7 | h7 <;> omega
    · have : N[j] = N[k] := by congr 1; omega
      rw [this] at hl
      omega
  rw [this, List.nil_append]
def chTo (N : List Str) (k j : Nat) : Nat := (((N.drop (k + 1)).take j).filter (chB (N.getD k []))).length
theorem chTo_succ {N : List Str} {k j : Nat} (hj : j < (N.drop (k + 1)).length) : chTo N k (j + 1) = chTo N k j + if chB (N.getD k []) ((N.drop (k + 1)).getD j []) then 1 else 0 := by
  unfold chTo
  rw [List.take_add_one, List.getElem?_eq_getElem hj, Option.toList_some, List.filter_append]
  have : (N.drop (k + 1)).getD j [] = (N.drop (k + 1))[j] := by simp only [List.getD_eq_getElem?_getD, List.getElem?_eq_getElem hj, Option.getD_some]
  rw [this]
  generalize (N.drop (k + 1))[j] = y
  generalize N.getD k [] = x
  cases h : chB x y <;> simp [h]
theorem chTo_all {N : List Str} (h : Tri N) {k : Nat} (hk : k < N.length) : chTo N k (N.drop (k + 1)).length = (ch N (N.getD k [])).length := by
  unfold chTo
  have : N.getD k [] = N[k] := by simp [hk]
  rw [List.take_length, this, h.after hk]
theorem take_next_map {α β : Type} {f : α → β} {l : List α} {k : Nat} {d : α} (hk : k < l.length) : (l.take (k + 1)).map f = (l.take k).map f ++ [f (l.getD k d)] := by
  rw [List.take_add_one, List.map_append]
  simp [hk]
theorem take_next_fm {α β : Type} {f : α → List β} {l : List α} {k : Nat} {d : α} (hk : k < l.length) : (l.take (k + 1)).flatMap f = (l.take k).flatMap f ++ f (l.getD k d) := by
  rw [List.take_add_one, List.flatMap_append]
  simp [hk]
theorem ch_le {N : List Str} {s : Str} : (ch N s).length ≤ N.length := List.length_filter_le _ _
theorem fm_take_le {N : List Str} (h : Tri N) (k : Nat) : ((N.take k).flatMap (shC N)).length ≤ 2 * N.length := by
  have h1 := h.shape
  have h2 : shapeL N = (N.take k).flatMap (shC N) ++ (N.drop k).flatMap (shC N) := by
    unfold shapeL
    conv => lhs; arg 2; rw [← List.take_append_drop k N]
    rw [List.flatMap_append]
  rw [h2, List.length_append] at h1
  omega
theorem ow_tr {h : H} {a c : Int} {x1 x2 : AV} {w1 w2 : Option (List Int)} {lab : Str} {n0 : Nat} {F1 F2 : Nat → Prop} (h1 : Ow h [x1] [eI w1] F1) (h2 : Ow h [x2] [eI w2] F2) (hF : ∀ c, F1 c → n0 ≤ c) (hF2 : ∀ c, F2 c → n0 ≤ c ∧ ¬ F1 c) :
    Ow h [.agg [.int .i64 a, x1, .int .i64 c, x2, .str lab]] [eTr ⟨⟨a, w1⟩, ⟨c, w2⟩, lab⟩] fun c => n0 ≤ c :=
  Ow.aggOf (ts := cTr ⟨⟨a, w1⟩, ⟨c, w2⟩, lab⟩) (.atom rfl (h1.cons (F' := F2) (.atom rfl (h2.cons (F' := fun _ => False) (.atom rfl .nil) (fun _ h => h) (fun _ h => h.elim))) hF hF2))

theorem biSome_o (o : Option (List Bool)) (hl : (lO o).length ≤ 5000) : FnO Tryz.prog 75 [eO o] (· = eB (mdB (lO o))) := fun g => (c_spec_biSome o (((lO o).length + 15) / 16) (by omega) hl g).mono (fun x g1 hx => by
  obtain ⟨bb, rfl, q1, q2, q3, q4⟩ := hx
  exact ⟨_, ow_B (G := fun c => g.length ≤ c) q1 q4 (by rw [wordsN_len]), rfl⟩) (fun _ _ h => h)
theorem c_spec_trOf_o (o : Option (List Str)) (hK : okKeys (lS o) = true) : FnO Tryz.prog 41 [eS o] (· = eTr (tK (lS o))) := by
  intro h
  refine enter (by kernel_rfl) e41 (by kernel_rfl) rfl fun hok => ?_
  simp only [r41, initEnv_1]
  have hKl := (okKeys_all hK).2.2
  have htr := nodesK_tri hK
  have hNl := nodesK_cap hKl
  have hN12 := nodesK_len hK
  have hnk := c_spec_trNodes o hKl
  have htk : tK (lS o) = ⟨mdB (shapeL (nodesK (lS o))), mdB (endL (lS o) (nodesK (lS o))), labL (nodesK (lS o))⟩ := rfl
  generalize tK (lS o) = R at htk ⊢
  have hfl := fm_take_le htr
  obtain ⟨N, hN⟩ : ∃ N, N = nodesK (lS o) := ⟨_, rfl⟩
  rw [← hN] at htr hNl hN12 hnk htk hfl
  have hlS : lS (some N) = N := rfl
  have hlSl : (lS (some N)).length = N.length := rfl
  (try (simp (disch := first | omega | (simp <;> omega) | fail) only [push_cast, ↓reduceIte, Nat.reduceEqDiff, Nat.reduceAdd, Nat.reduceMul, Nat.reduceSub, Nat.reduceLT, Int.reduceToNat]))
  refine hnk.call ?_
  (try (simp (disch := first | omega | (simp <;> omega) | fail) only [push_cast, ↓reduceIte, Nat.reduceEqDiff, Nat.reduceAdd, Nat.reduceMul, Nat.reduceSub, Nat.reduceLT, Int.reduceToNat, hlS]))
  refine T_for N.length (fun k e h' => ∃ v4 v5 v6, Pins e [(0, eS o), (2, .adr h.length 0), (3, eS (some N)), (4, v4), (5, v5), (6, v6), (13, eS (some N)), (14, .int .i64 N.length), (15, .int .i64 k)] ∧ G3 (h.length + 1) h' v4 (((N.take k).flatMap (shC N)).map .bool) v5 (((N.take k).map fun s => decide (s ∈ lS o)).map .bool) v6 (u8s (((N.take k).drop 1).map (·.getLastD 0))) ∧ H.cells h' h.length = some [.int .i64 0, .nils, .int .i64 0, .nils, .str []]) ?_ ?_
  · refine ⟨.nils, .nils, .nils, ?_⟩
    (try (simp (disch := first | omega | (simp <;> omega) | fail) only [push_cast, ↓reduceIte, Nat.reduceEqDiff, Nat.reduceAdd, Nat.reduceMul, Nat.reduceSub, Nat.reduceLT, Int.reduceToNat, hlS]))
    all_goals (try exact ⟨G3.nil (by simp), by rw [cells_h0]; rfl⟩)
    all_goals (try exact ⟨G3.nil (by simp), rfl⟩)
    all_goals (try exact G3.nil (by simp))
  rintro k e h' hk ⟨v4, v5, v6, hp, hs, hbx⟩
  refine T_pins hp fun e => ?_
  (try (simp (disch := first | omega | (simp <;> omega) | fail) only [push_cast, ↓reduceIte, Nat.reduceEqDiff, Nat.reduceAdd, Nat.reduceMul, Nat.reduceSub, Nat.reduceLT, Int.reduceToNat, hlS]))
  first | refine goC_split (fun hc => ?_) (fun hc => ?_) | refine cnd_split (fun hc => ?_) (fun hc => ?_)
  · (try (simp only [decide_eq_true_eq, decide_eq_false_iff_not, Bool.not_eq_true', Bool.not_eq_false', Bool.and_eq_true, Bool.or_eq_true, Int.not_lt, Int.not_le] at hc)); (try (simp (disch := first | omega | (simp <;> omega) | fail) only [push_cast, ↓reduceIte, Nat.reduceEqDiff, Nat.reduceAdd, Nat.reduceMul, Nat.reduceSub, Nat.reduceLT, Int.reduceToNat]))
    have hk2 : k < N.length := by omega
    obtain ⟨s, hsd⟩ : ∃ s, s = N.getD k [] := ⟨_, rfl⟩
    have hsN : s ∈ N := by rw [hsd]; simp [hk2]
    have hsl := hN12 s hsN
    have hgs : ((lS (some N)).map AV.str)[k]? = some (.str s) := by rw [hsd]; exact get_S hk2
    have hgs2 : (N.map AV.str)[k]? = some (.str s) := hgs
    obtain ⟨C, hC⟩ : ∃ C, C = N.drop (k + 1) := ⟨_, rfl⟩
    have hCl : C.length = N.length - (k + 1) := by rw [hC]; simp
    have hsl2 : slcA 1 (some (.int .i64 ((k : Int) + 1))) none (eS (some N)) = some (eS (some C)) := by
      rw [slc_eS_lo (by omega) (by rw [hlSl]; omega)]
      have e1 : ((k : Int) + 1).toNat = k + 1 := by omega
      rw [e1, hC]
      rfl
    have hdre : eS (dreS (k + 1) (some N)) = eS (some C) := by
      rw [hC]
      rfl
    have hlC : lS (some C) = C := rfl
    have hlCl : (lS (some C)).length = C.length := rfl
    have hct : ∀ {j : Nat}, j < (N.drop (k + 1)).length → chTo N k (j + 1) = chTo N k j + if chB (N.getD k []) ((N.drop (k + 1)).getD j []) then 1 else 0 := fun hj => chTo_succ hj
    have hca := chTo_all htr hk2
    have hc0 : chTo N k 0 = 0 := rfl
    have hcle := ch_le (N := N) (s := s)
    rw [← hC, ← hsd] at hct
    rw [← hC, ← hsd] at hca
    have hfk := hfl k
    (try (simp (disch := first | omega | (simp <;> omega) | fail) only [push_cast, ↓reduceIte, Nat.reduceEqDiff, Nat.reduceAdd, Nat.reduceMul, Nat.reduceSub, Nat.reduceLT, Int.reduceToNat, hlS, ← hsd, hdre]))
    refine T_for C.length (fun j e h' => ∃ v4, Pins e [(0, eS o), (2, .adr h.length 0), (3, eS (some N)), (4, v4), (5, v5), (6, v6), (7, .int .i64 k), (8, .str s), (13, eS (some N)), (14, .int .i64 N.length), (15, .int .i64 k), (23, eS (some C)), (24, .int .i64 C.length), (25, .int .i64 j)] ∧ G3 (h.length + 1) h' v4 (((N.take k).flatMap (shC N) ++ List.replicate (chTo N k j) true).map .bool) v5 (((N.take k).map fun s => decide (s ∈ lS o)).map .bool) v6 (u8s (((N.take k).drop 1).map (·.getLastD 0))) ∧ H.cells h' h.length = some [.int .i64 0, .nils, .int .i64 0, .nils, .str []] ∧ chTo N k j ≤ j) ?_ ?_
    · refine ⟨v4, ?_⟩
      rw [hc0, List.replicate_zero, List.append_nil]
      (try (simp (disch := first | omega | (simp <;> omega) | fail) only [push_cast, ↓reduceIte, Nat.reduceEqDiff, Nat.reduceAdd, Nat.reduceMul, Nat.reduceSub, Nat.reduceLT, Int.reduceToNat, hlC]))
      all_goals (try exact ⟨hs, hbx⟩)
    rintro j e h' hj ⟨v4, hp, hs, hbx, hcj⟩
    refine T_pins hp fun e => ?_
    (try (simp (disch := first | omega | (simp <;> omega) | fail) only [push_cast, ↓reduceIte, Nat.reduceEqDiff, Nat.reduceAdd, Nat.reduceMul, Nat.reduceSub, Nat.reduceLT, Int.reduceToNat, hlC]))
    first | refine goC_split (fun hc => ?_) (fun hc => ?_) | refine cnd_split (fun hc => ?_) (fun hc => ?_)
    · (try (simp only [decide_eq_true_eq, decide_eq_false_iff_not, Bool.not_eq_true', Bool.not_eq_false', Bool.and_eq_true, Bool.or_eq_true, Int.not_lt, Int.not_le] at hc)); (try (simp (disch := first | omega | (simp <;> omega) | fail) only [push_cast, ↓reduceIte, Nat.reduceEqDiff, Nat.reduceAdd, Nat.reduceMul, Nat.reduceSub, Nat.reduceLT, Int.reduceToNat]))
      have hj2 : j < C.length := by omega
      have hnx := hct hj2
      obtain ⟨y, hy⟩ : ∃ y, y = C.getD j [] := ⟨_, rfl⟩
      rw [← hy] at hnx
      have hgy : ((lS (some C)).map AV.str)[j]? = some (.str y) := by rw [hy]; exact get_S hj2
      have hgy2 : (C.map AV.str)[j]? = some (.str y) := hgy
      have hyN : y ∈ N := List.mem_of_mem_drop (by rw [← hC, hy]; simp [hj2])
      have hyl := hN12 y hyN
      have hskip : chB s y = false → G3 (h.length + 1) h' v4 (((N.take k).flatMap (shC N) ++ List.replicate (chTo N k (j + 1)) true).map .bool) v5 (((N.take k).map fun s => decide (s ∈ lS o)).map .bool) v6 (u8s (((N.take k).drop 1).map (·.getLastD 0))) ∧ H.cells h' h.length = some [.int .i64 0, .nils, .int .i64 0, .nils, .str []] ∧ chTo N k (j + 1) ≤ j + 1 := fun h5 => by
        rw [hnx, h5]
        exact ⟨hs, hbx, by simp; omega⟩
      by_cases c1 : y.length = s.length + 1
      · have c1' : ((y.length : Int) = (s.length : Int) + 1) = True := by simp; omega
        (try (simp (disch := first | omega | (simp <;> omega) | fail) only [push_cast, ↓reduceIte, Nat.reduceEqDiff, Nat.reduceAdd, Nat.reduceMul, Nat.reduceSub, Nat.reduceLT, Int.reduceToNat, hlC, ← hy, c1']))
        refine (c_spec_trBegins y s (by omega) (by omega)).call ?_
        have hbg : (decide (s.length ≤ y.length) && decide (y.take s.length = s)) = chB s y := by
          unfold chB
          rw [decide_eq_true c1, decide_eq_true (show s.length ≤ y.length by omega)]
        rw [hbg]
        cases hcb : chB s y
        · have hk5 := hskip hcb
          (try (simp (disch := first | omega | (simp <;> omega) | fail) only [push_cast, ↓reduceIte, Nat.reduceEqDiff, Nat.reduceAdd, Nat.reduceMul, Nat.reduceSub, Nat.reduceLT, Int.reduceToNat]))
          all_goals (try exact ⟨_, rfl, hk5⟩)
          all_goals (try exact ⟨_, rfl, hk5.1, hk5.2.1⟩)
          all_goals (try exact hk5)
        · rw [hcb, if_pos rfl] at hnx
          (try (simp (disch := first | omega | (simp <;> omega) | fail) only [push_cast, ↓reduceIte, Nat.reduceEqDiff, Nat.reduceAdd, Nat.reduceMul, Nat.reduceSub, Nat.reduceLT, Int.reduceToNat]))
          refine hs.app (by_ := 1) (fun c hc => Or.inr (by omega)) (by rw [List.length_map, List.length_append, List.length_replicate]; omega) (by decide) fun v' h'' q1 q2 q3 => ?_
          have hbx2 := cells_keep (q2 h.length (by omega)) hbx
          have q1' : G3 (h.length + 1) h'' v' (((N.take k).flatMap (shC N) ++ List.replicate (chTo N k (j + 1)) true).map .bool) v5 (((N.take k).map fun s => decide (s ∈ lS o)).map .bool) v6 (u8s (((N.take k).drop 1).map (·.getLastD 0))) := by
            rw [hnx, List.replicate_succ', ← List.append_assoc, List.map_append]
            exact q1
          have hle2 : chTo N k (j + 1) ≤ j + 1 := by omega
          (try (simp (disch := first | omega | (simp <;> omega) | fail) only [push_cast, ↓reduceIte, Nat.reduceEqDiff, Nat.reduceAdd, Nat.reduceMul, Nat.reduceSub, Nat.reduceLT, Int.reduceToNat]))
          all_goals (try exact ⟨_, rfl, q1', hbx2, hle2⟩)
          all_goals (try exact ⟨_, rfl, q1', hbx2⟩)
          all_goals (try exact ⟨q1', hbx2, hle2⟩)
      · have hk5 := hskip (by
          unfold chB
          rw [decide_eq_false c1]
          rfl)
        have c1' : ((y.length : Int) = (s.length : Int) + 1) = False := by simp; omega
        (try (simp (disch := first | omega | (simp <;> omega) | fail) only [push_cast, ↓reduceIte, Nat.reduceEqDiff, Nat.reduceAdd, Nat.reduceMul, Nat.reduceSub, Nat.reduceLT, Int.reduceToNat, hlC, ← hy, c1']))
        all_goals (try exact ⟨_, rfl, hk5⟩)
        all_goals (try exact ⟨_, rfl, hk5.1, hk5.2.1⟩)
        all_goals (try exact hk5)
    · (try (simp only [decide_eq_true_eq, decide_eq_false_iff_not, Bool.not_eq_true', Bool.not_eq_false', Bool.and_eq_true, Bool.or_eq_true, Int.not_lt, Int.not_le] at hc)); (try (simp (disch := first | omega | (simp <;> omega) | fail) only [push_cast, ↓reduceIte, Nat.reduceEqDiff, Nat.reduceAdd, Nat.reduceMul, Nat.reduceSub, Nat.reduceLT, Int.reduceToNat]))
      have hje : j = C.length := by omega
      subst hje
      rw [hca] at hs
      have hfm := take_next_fm (f := shC N) (d := []) hk2
      have hmp := take_next_map (f := fun s => decide (s ∈ lS o)) (d := []) hk2
      rw [← hsd] at hfm hmp
      (try (simp (disch := first | omega | (simp <;> omega) | fail) only [push_cast, ↓reduceIte, Nat.reduceEqDiff, Nat.reduceAdd, Nat.reduceMul, Nat.reduceSub, Nat.reduceLT, Int.reduceToNat]))
      refine hs.app (by_ := 1) (fun c hc => Or.inr (by omega)) (by rw [List.length_map, List.length_append, List.length_replicate]; omega) (by decide) fun v' h2 q1 q2 q3 => ?_
      have hb2 := cells_keep (q2 h.length (by omega)) hbx
      have q1' : G3 (h.length + 1) h2 v' (((N.take (k + 1)).flatMap (shC N)).map .bool) v5 (((N.take k).map fun s => decide (s ∈ lS o)).map .bool) v6 (u8s (((N.take k).drop 1).map (·.getLastD 0))) := by
        rw [hfm]
        unfold shC
        rw [← List.append_assoc, List.map_append (l₂ := [false])]
        exact q1
      clear q1
      (try (simp (disch := first | omega | (simp <;> omega) | fail) only [push_cast, ↓reduceIte, Nat.reduceEqDiff, Nat.reduceAdd, Nat.reduceMul, Nat.reduceSub, Nat.reduceLT, Int.reduceToNat]))
      refine (c_spec_l1HasS o s).call ?_
      (try (simp (disch := first | omega | (simp <;> omega) | fail) only [push_cast, ↓reduceIte, Nat.reduceEqDiff, Nat.reduceAdd, Nat.reduceMul, Nat.reduceSub, Nat.reduceLT, Int.reduceToNat]))
      refine q1'.rot.app (by_ := 1) (fun c hc => Or.inr (by omega)) (by rw [List.length_map, List.length_map, List.length_take]; omega) (by decide) fun v'' h3 p1 p2 p3 => ?_
      have hb3 := cells_keep (p2 h.length (by omega)) hb2
      have p1' : G3 (h.length + 1) h3 v'' (((N.take (k + 1)).map fun s => decide (s ∈ lS o)).map .bool) v6 (u8s (((N.take k).drop 1).map (·.getLastD 0))) v' (((N.take (k + 1)).flatMap (shC N)).map .bool) := by
        rw [hmp, List.map_append]
        exact p1
      clear p1
      by_cases k0 : 0 < k
      · have k0' : (0 < (k : Int)) = True := by simp; omega
        have hmd : ((N.take (k + 1)).drop 1).map (·.getLastD 0) = ((N.take k).drop 1).map (·.getLastD 0) ++ [s.getLastD 0] := by
          rw [List.take_add_one, List.drop_append_of_le_length (by rw [List.length_take]; omega), List.map_append, hsd]
          simp [hk2]
        have hsp : 1 ≤ s.length := by
          obtain ⟨R, hR, _, hR3⟩ := htr.head
          have : s ∈ R := by
            rw [hsd, hR]
            rw [List.getD_eq_getElem?_getD, show k = (k - 1) + 1 by omega, List.getElem?_cons_succ]
            have : k - 1 < R.length := by rw [hR] at hk2; simp at hk2; omega
            simp [this]
          exact List.length_pos_iff.2 (hR3 s this)
        have hsx : sidxA (.str s) (.int .i64 ((s.length : Int) - 1)) = some (.int .u8 ((s.getLastD 0).toNat : Int)) := by
          have e1 : ((s.length : Int) - 1).toNat = s.length - 1 := by omega
          rw [← getLast_getD (d := 0), sidxA_str (by omega) (by omega), e1]
        (try (simp (disch := first | omega | (simp <;> omega) | fail) only [push_cast, ↓reduceIte, Nat.reduceEqDiff, Nat.reduceAdd, Nat.reduceMul, Nat.reduceSub, Nat.reduceLT, Int.reduceToNat, k0', hsx]))
        refine p1'.rot.app (by_ := 1) (fun c hc => Or.inr (by omega)) (by simp [u8s]; omega) (by decide) fun v3 h4 r1 r2 r3 => ?_
        have hb4 := cells_keep (r2 h.length (by omega)) hb3
        have r1' : G3 (h.length + 1) h4 v' (((N.take (k + 1)).flatMap (shC N)).map .bool) v'' (((N.take (k + 1)).map fun s => decide (s ∈ lS o)).map .bool) v3 (u8s (((N.take (k + 1)).drop 1).map (·.getLastD 0))) := by
          rw [hmd]
          unfold u8s at r1 ⊢
          rw [List.map_append]
          exact r1.rot
        (try (simp (disch := first | omega | (simp <;> omega) | fail) only [push_cast, ↓reduceIte, Nat.reduceEqDiff, Nat.reduceAdd, Nat.reduceMul, Nat.reduceSub, Nat.reduceLT, Int.reduceToNat]))
        all_goals (try exact ⟨_, _, _, ⟨rfl, rfl, rfl⟩, r1', hb4⟩)
        all_goals (try exact ⟨r1', hb4⟩)
      · have k00 : k = 0 := by omega
        have k0' : (0 < (k : Int)) = False := by simp; omega
        have r1' : G3 (h.length + 1) h3 v' (((N.take (k + 1)).flatMap (shC N)).map .bool) v'' (((N.take (k + 1)).map fun s => decide (s ∈ lS o)).map .bool) v6 (u8s (((N.take (k + 1)).drop 1).map (·.getLastD 0))) := by
          have e1 : ((N.take (k + 1)).drop 1).map (·.getLastD (0 : UInt8)) = ((N.take k).drop 1).map (·.getLastD 0) := by rw [k00]; simp
          rw [e1]
          exact p1'.rot.rot
        (try (simp (disch := first | omega | (simp <;> omega) | fail) only [push_cast, ↓reduceIte, Nat.reduceEqDiff, Nat.reduceAdd, Nat.reduceMul, Nat.reduceSub, Nat.reduceLT, Int.reduceToNat, k0']))
        all_goals (try exact ⟨_, _, _, ⟨rfl, rfl, rfl⟩, r1', hb3⟩)
        all_goals (try exact ⟨r1', hb3⟩)
  · (try (simp only [decide_eq_true_eq, decide_eq_false_iff_not, Bool.not_eq_true', Bool.not_eq_false', Bool.and_eq_true, Bool.or_eq_true, Int.not_lt, Int.not_le] at hc)); (try (simp (disch := first | omega | (simp <;> omega) | fail) only [push_cast, ↓reduceIte, Nat.reduceEqDiff, Nat.reduceAdd, Nat.reduceMul, Nat.reduceSub, Nat.reduceLT, Int.reduceToNat]))
    have hke : k = N.length := by omega
    subst hke
    rw [List.take_length] at hs
    obtain ⟨B6, s6, b6⟩ := hs.rot.rot.one
    have hcb : cbsA h' v6 = some (.str (labL N)) := cbs_S1 s6
    have hv6 : v6 = .nils ∨ ∃ b, v6 = .sl b 0 1 (u8s (labL N)).length (u8s (labL N)).length ∧ h.length + 1 ≤ b := by
      rcases s6.2 with ⟨rfl, _, _⟩ | ⟨b, hv, hb, _⟩
      · exact .inl rfl
      · exact .inr ⟨b, hv, b6 b (by rw [hb]; simp)⟩
    clear s6
    obtain ⟨B4, s4, b4⟩ := hs.one
    obtain ⟨B5, s5, b5⟩ := hs.rot.one
    have hn0 := hs.1
    obtain ⟨o4, w4, l4⟩ := S1.vwO (n := 0) s4 b4 (Nat.zero_le _) fun _ => hn0
    have hsh : N.flatMap (shC N) = shapeL N := rfl
    have hen : N.map (fun s => decide (s ∈ lS o)) = endL (lS o) N := rfl
    have hshl : (shapeL N).length ≤ 2 * N.length := by
      have := htr.shape
      omega
    have henl : (endL (lS o) N).length = N.length := by simp [endL]
    rw [hsh] at l4
    have b1 := biSome_o o4 (by rw [l4]; omega)
    rw [l4] at b1
    (try (simp (disch := first | omega | (simp <;> omega) | fail) only [push_cast, ↓reduceIte, Nat.reduceEqDiff, Nat.reduceAdd, Nat.reduceMul, Nat.reduceSub, Nat.reduceLT, Int.reduceToNat, hcb]))
    refine b1.goL (.cons w4 .nil) fun x t g1 hR hx how => ?_
    subst hR
    obtain ⟨w1, F1, rfl, f1, f2, f3, f4, _⟩ := ow_bt how
    have s5' := s5.frame (h' := g1) fun c hc => hx.at_ (s5.lt c hc)
    obtain ⟨o5, w5, l5⟩ := S1.vwO (n := 0) s5' b5 (Nat.zero_le _) fun _ => by have := hx.len; omega
    rw [hen] at l5
    have b2 := biSome_o o5 (by rw [l5]; omega)
    rw [l5] at b2
    (try (simp (disch := first | omega | (simp <;> omega) | fail) only [push_cast, ↓reduceIte, Nat.reduceEqDiff, Nat.reduceAdd, Nat.reduceMul, Nat.reduceSub, Nat.reduceLT, Int.reduceToNat, f3, f4]))
    refine b2.goL (.cons w5 .nil) fun x t g2 hR hx2 how2 => ?_
    subst hR
    obtain ⟨w2, F2, rfl, k1, k2, k3, k4, _⟩ := ow_bt how2
    have y1 := hx2.cells (hx.cells hbx)
    have hpm : (h.length ≤ h.length) = True := by simp
    have hw1 : ∀ cs, H.cells (wr g2 h.length cs) h.length = some cs := fun cs => cells_wr2 (cells_lt y1)
    have hx1l := hx.len
    have hfin : ∀ cs, ∃ t, Ow (wr g2 h.length cs) [.agg [.int .i64 (mdB (shapeL N)).size, w1, .int .i64 (mdB (endL (lS o) N)).size, w2, .str (labL N)]] [t] (fun c => h.length ≤ c) ∧ t = eTr R := fun cs => by
      have hwr : ∀ c, c ≠ h.length → (wr g2 h.length cs)[c]? = g2[c]? := fun c hc => by
        unfold wr
        rw [List.getElem?_set_ne (Ne.symm hc)]
      refine ⟨_, ow_tr (n0 := h.length) (f1.frame fun c hc => (hwr c (by have := (f2 c hc).1; omega)).trans (hx2.at_ (f2 c hc).2)) (k1.frame fun c hc => hwr c (by have := (k2 c hc).1; omega)) (fun c hc => by have := (f2 c hc).1; omega) (fun c hc => ⟨by have := (k2 c hc).1; omega, fun h5 => by have := (k2 c hc).1; have := (f2 c h5).2; omega⟩), ?_⟩
      rw [htk]
    rcases hv6 with rfl | ⟨b6, rfl, hb6⟩
    · (try (simp (disch := first | omega | (simp <;> omega) | fail) only [push_cast, ↓reduceIte, Nat.reduceEqDiff, Nat.reduceAdd, Nat.reduceMul, Nat.reduceSub, Nat.reduceLT, Int.reduceToNat, f3, f4, k3, k4, y1, hpm, hw1, reads, List.mem_cons, List.mem_append, List.not_mem_nil, nat_ff, or_self, or_false, false_or, not_false_eq_true]))
      all_goals (try exact hfin _)
    · have hne : ¬ h.length = b6 := by omega
      (try (simp (disch := first | omega | (simp <;> omega) | fail) only [push_cast, ↓reduceIte, Nat.reduceEqDiff, Nat.reduceAdd, Nat.reduceMul, Nat.reduceSub, Nat.reduceLT, Int.reduceToNat, f3, f4, k3, k4, y1, hpm, hw1, hne, reads, List.mem_cons, List.mem_append, List.not_mem_nil, nat_ff, or_self, or_false, false_or, not_false_eq_true]))
      all_goals (try exact hfin _)

theorem c_spec_l1Same (a b : Option (List Int)) : Fn Tryz.prog 162 [eI a, eI b] (· = .bool (decide (lI a = lI b))) := by
  refine Fn.of free_bool fun h => ?_
  refine enter (by kernel_rfl) e162 (by kernel_rfl) rfl fun hok => ?_
  simp only [r162, initEnv_2]
  have ha := ok_eI (okV_0 hok)
  have hb := ok_eI (okV_1 hok)
  (try (simp (disch := first | omega | (simp <;> omega) | fail) only [push_cast, ↓reduceIte, Nat.reduceEqDiff, Nat.reduceAdd, Nat.reduceMul, Nat.reduceSub, Nat.reduceLT, Int.reduceToNat]))
  first | refine goC_split (fun hc => ?_) (fun hc => ?_) | refine cnd_split (fun hc => ?_) (fun hc => ?_)
  · (try (simp only [decide_eq_true_eq, decide_eq_false_iff_not, Bool.not_eq_true', Bool.not_eq_false', Bool.and_eq_true, Bool.or_eq_true, Int.not_lt, Int.not_le] at hc)); (try (simp (disch := first | omega | (simp <;> omega) | fail) only [push_cast, ↓reduceIte, Nat.reduceEqDiff, Nat.reduceAdd, Nat.reduceMul, Nat.reduceSub, Nat.reduceLT, Int.reduceToNat]))
    symm
    rw [decide_eq_false_iff_not]
    intro he
    rw [he] at hc
    exact hc rfl
  have hlen : (lI a).length = (lI b).length := by (try (simp only [decide_eq_true_eq, decide_eq_false_iff_not, Bool.not_eq_true', Bool.not_eq_false', Bool.and_eq_true, Bool.or_eq_true, Int.not_lt, Int.not_le] at hc)); (try (simp (disch := first | omega | (simp <;> omega) | fail) only [push_cast, ↓reduceIte, Nat.reduceEqDiff, Nat.reduceAdd, Nat.reduceMul, Nat.reduceSub, Nat.reduceLT, Int.reduceToNat])); omega
  (try (simp (disch := first | omega | (simp <;> omega) | fail) only [push_cast, ↓reduceIte, Nat.reduceEqDiff, Nat.reduceAdd, Nat.reduceMul, Nat.reduceSub, Nat.reduceLT, Int.reduceToNat]))
  refine T_for (lI a).length (fun i e h' => Pins e [(0, eI a), (1, eI b), (12, .int .i64 (lI a).length), (13, .int .i64 i)] ∧ h' = h ∧ (lI a).take i = (lI b).take i) ?_ ?_
  · (try (simp (disch := first | omega | (simp <;> omega) | fail) only [push_cast, ↓reduceIte, Nat.reduceEqDiff, Nat.reduceAdd, Nat.reduceMul, Nat.reduceSub, Nat.reduceLT, Int.reduceToNat]))
    simp
  rintro i e h' hi ⟨hp, rfl, he⟩
  refine T_pins hp fun e => ?_
  (try (simp (disch := first | omega | (simp <;> omega) | fail) only [push_cast, ↓reduceIte, Nat.reduceEqDiff, Nat.reduceAdd, Nat.reduceMul, Nat.reduceSub, Nat.reduceLT, Int.reduceToNat]))
  first | refine goC_split (fun hc => ?_) (fun hc => ?_) | refine cnd_split (fun hc => ?_) (fun hc => ?_)
  · (try (simp only [decide_eq_true_eq, decide_eq_false_iff_not, Bool.not_eq_true', Bool.not_eq_false', Bool.and_eq_true, Bool.or_eq_true, Int.not_lt, Int.not_le] at hc)); (try (simp (disch := first | omega | (simp <;> omega) | fail) only [push_cast, ↓reduceIte, Nat.reduceEqDiff, Nat.reduceAdd, Nat.reduceMul, Nat.reduceSub, Nat.reduceLT, Int.reduceToNat]))
    have hi : i < (lI a).length := by omega
    (try (simp (disch := first | omega | (simp <;> omega) | fail) only [push_cast, ↓reduceIte, Nat.reduceEqDiff, Nat.reduceAdd, Nat.reduceMul, Nat.reduceSub, Nat.reduceLT, Int.reduceToNat]))
    first | refine goC_split (fun hc => ?_) (fun hc => ?_) | refine cnd_split (fun hc => ?_) (fun hc => ?_)
    · (try (simp only [decide_eq_true_eq, decide_eq_false_iff_not, Bool.not_eq_true', Bool.not_eq_false', Bool.and_eq_true, Bool.or_eq_true, Int.not_lt, Int.not_le] at hc)); (try (simp (disch := first | omega | (simp <;> omega) | fail) only [push_cast, ↓reduceIte, Nat.reduceEqDiff, Nat.reduceAdd, Nat.reduceMul, Nat.reduceSub, Nat.reduceLT, Int.reduceToNat]))
      symm
      rw [decide_eq_false_iff_not]
      intro he
      rw [he] at hc
      exact hc rfl
    · (try (simp only [decide_eq_true_eq, decide_eq_false_iff_not, Bool.not_eq_true', Bool.not_eq_false', Bool.and_eq_true, Bool.or_eq_true, Int.not_lt, Int.not_le] at hc)); (try (simp (disch := first | omega | (simp <;> omega) | fail) only [push_cast, ↓reduceIte, Nat.reduceEqDiff, Nat.reduceAdd, Nat.reduceMul, Nat.reduceSub, Nat.reduceLT, Int.reduceToNat]))
      have h1 : i < (lI b).length := by omega
      simp [hi, h1] at hc
      rw [List.take_add_one, List.take_add_one, he]
      simp [hi, h1, hc]
  · (try (simp only [decide_eq_true_eq, decide_eq_false_iff_not, Bool.not_eq_true', Bool.not_eq_false', Bool.and_eq_true, Bool.or_eq_true, Int.not_lt, Int.not_le] at hc)); (try (simp (disch := first | omega | (simp <;> omega) | fail) only [push_cast, ↓reduceIte, Nat.reduceEqDiff, Nat.reduceAdd, Nat.reduceMul, Nat.reduceSub, Nat.reduceLT, Int.reduceToNat]))
    have hi2 : i = (lI a).length := by omega
    symm
    rw [decide_eq_true_iff]
    rw [hi2, List.take_length] at he
    rw [he, hlen, List.take_length]

theorem c_spec_biSame (a b : Bt) : Fn Tryz.prog 130 [eB a, eB b] (· = .bool (sameB a b)) := by
  refine Fn.of free_bool fun h => ?_
  refine enter (by kernel_rfl) e130 (by kernel_rfl) rfl fun hok => ?_
  simp only [r130, initEnv_2]
  unfold sameB
  cases hs : decide (a.size = b.size)
  · (try (simp (disch := first | omega | (simp <;> omega) | fail) only [push_cast, ↓reduceIte, Nat.reduceEqDiff, Nat.reduceAdd, Nat.reduceMul, Nat.reduceSub, Nat.reduceLT, Int.reduceToNat, hs]))
  (try (simp (disch := first | omega | (simp <;> omega) | fail) only [push_cast, ↓reduceIte, Nat.reduceEqDiff, Nat.reduceAdd, Nat.reduceMul, Nat.reduceSub, Nat.reduceLT, Int.reduceToNat, hs]))
  refine (c_spec_l1Same a.words b.words).call ?_
  (try (simp (disch := first | omega | (simp <;> omega) | fail) only [push_cast, ↓reduceIte, Nat.reduceEqDiff, Nat.reduceAdd, Nat.reduceMul, Nat.reduceSub, Nat.reduceLT, Int.reduceToNat, hs]))

theorem vw_tupT {h : H} {n : Nat} {a b x y : AV} (h1 : Vw h n a b) (h2 : Vw h n x y) : Vw h n (.tup [a, x]) (.tup [b, y]) := by
  refine .tup rfl fun j y' t hy ht => ?_
  rcases j with _ | _ | j
  · simp at hy ht
    subst hy ht
    exact h1
  · simp at hy ht
    subst hy ht
    exact h2
  · simp at hy

theorem ow_trE {h : H} {x : AV} {t : Tr} {G : Nat → Prop} (ho : Ow h [x] [eTr t] G) : ∃ x2 x4 F2 F4, x = .agg [.int .i64 t.sh.size, x2, .int .i64 t.en.size, x4, .str t.lab] ∧ Ow h [x2] [eI t.sh.words] F2 ∧ Ow h [x4] [eI t.en.words] F4 ∧ (∀ c, F2 c → G c) ∧ (∀ c, F4 c → G c ∧ ¬ F2 c) ∧
    ∀ h' w2 w4, Ow h' [x2] [eI w2] F2 → Ow h' [x4] [eI w4] F4 → Ow h' [x] [eTr ⟨⟨t.sh.size, w2⟩, ⟨t.en.size, w4⟩, t.lab⟩] G := by
  obtain ⟨cs, rfl, h1⟩ := Ow.openAgg (show Ow h [x] [.agg (cTr t)] G from ho)
  have hl : cs.length = 5 := h1.len.symm
  match cs, hl, h1 with
  | [x1, x2, x3, x4, x5], _, h1 =>
    obtain ⟨_, G2, f1, h2, _, g2⟩ := h1.uncons
    obtain ⟨F2, G3, f2, h3, e2, g3⟩ := h2.uncons
    obtain ⟨_, G4, f3, h4, _, g4⟩ := h3.uncons
    obtain ⟨F4, G5, f4, h5, e4, g5⟩ := h4.uncons
    have a1 : x1 = .int .i64 t.sh.size := f1.atomOf rfl
    have a3 : x3 = .int .i64 t.en.size := f3.atomOf rfl
    have a5 : x5 = .str t.lab := h5.atomOf rfl
    subst a1 a3 a5
    have q4 : ∀ c, F4 c → G c ∧ ¬ F2 c := fun c hc => by
      have h8 := g3 c (g4 c (e4 c hc)).1
      exact ⟨(g2 c h8.1).1, h8.2⟩
    refine ⟨x2, x4, F2, F4, rfl, f2, f4, fun c hc => (g2 c (e2 c hc)).1, q4, fun h' w2 w4 o2 o4 => ?_⟩
    refine Ow.aggOf (ts := cTr ⟨⟨t.sh.size, w2⟩, ⟨t.en.size, w4⟩, t.lab⟩) (.atom rfl ?_)
    exact o2.cons (F' := F4) (.atom rfl (o4.cons (F' := fun _ => False) (.atom rfl .nil) (fun _ h => h) (fun _ h => h.elim))) (fun c hc => (g2 c (e2 c hc)).1) q4

def TkR (t : Tr) (v : AV) : Prop := ∃ o b, v = .tup [eS o, .bool b] ∧ ((b = true ∧ trV t = some (lS o)) ∨ (b = false ∧ trV t = none))
theorem trV_pre {t : Tr} (h1 : okBt t.sh = true) (h2 : okBt t.en = true) : okT0 t = szOk t := by
  unfold okT0 szOk
  rw [h1, h2]
  rfl
theorem TkR.no {t : Tr} {hh : H} {n : Nat} (h : trV t = none) : ∃ t', Vw hh n (.tup [.nils, .bool false]) t' ∧ TkR t t' :=
  ⟨.tup [.nils, .bool false], .free (free_tup (free_cons_ free_nils (free_cons_ free_bool free_nil_))), none, false, rfl, .inr ⟨rfl, h⟩⟩
theorem trV_P {t : Tr} {P : List Str} {a : Nat} (h0 : okT0 t = true) (hd : decT false t.lab (btL t.sh) = some (P, a)) (hl : (P.length : Int) = t.en.size) :
    trV t = if okKeys (trKs P t) && sameT (tK (trKs P t)) t then some (trKs P t) else none := by
  unfold trV
  rw [if_pos h0, hd]
  simp only
  rw [if_pos hl]
theorem sameB_comm (a b : Bt) : sameB a b = sameB b a := by
  rw [Bool.eq_iff_iff, sameB_iff, sameB_iff]
  exact ⟨fun h => ⟨h.1.symm, h.2.symm⟩, fun h => ⟨h.1.symm, h.2.symm⟩⟩

theorem GrD.next {h g g2 : H} {b K : Nat} {c : Option (List UInt8)} {v x : AV} {l l' : List Str} {B B' : List Nat} (hg : CurF h g b c K) (hb : b < h.length) (hB : ∀ k ∈ B, h.length ≤ k) (hl : g.length ≤ g2.length) (hk : ∀ k, k < g.length → g2[k]? = g[k]?) (hs : S1 g2 1 x l'.length (l'.map .str) B') (hB2 : ∀ k ∈ B', k ∈ B ∨ g.length ≤ k) : GrD AV.str h g2 b c K x l' := by
  have h1 := hg.1
  refine ⟨⟨by omega, fun k hk1 hn => (hk k (by omega)).trans (hg.2.1 k hk1 hn), hg.2.2.frame (hk b (by omega))⟩, hb, B', hs, fun k hk1 => ?_⟩
  rcases hB2 k hk1 with h5 | h5
  · exact hB k h5
  · omega
theorem S1.vwS0 {h : H} {n0 n : Nat} {v : AV} {l : List Str} {B : List Nat} (hs : S1 h 1 v n (l.map .str) B) (hb : ∀ b ∈ B, n0 ≤ b) : ∃ o, Vw h n0 v (eS o) ∧ lS o = l := by
  have hn : n = l.length := by have := hs.1; simp at this; omega
  subst hn
  rcases hs.2 with ⟨rfl, h0, rfl⟩ | ⟨b, rfl, rfl, hc⟩
  · exact ⟨none, .free free_nils, (List.eq_nil_of_length_eq_zero h0).symm⟩
  · exact ⟨some l, vw_all (hb b (by simp)) hc (by simp) (one_map fun _ => rfl) (free_map_ fun _ => free_str), rfl⟩

theorem c_spec_trKeys (t : Tr) : Fn Tryz.prog 80 [eTr t] (TkR t) := by
  refine Fn.froze_ fun h => ?_
  refine enter (by kernel_rfl) e80 (by kernel_rfl) rfl fun hok => ?_
  simp only [r80, initEnv_1]
  have hno : trV t = none → ∀ hh : H, ∃ t', Vw hh h.length (.tup [.nils, .bool false]) t' ∧ TkR t t' := fun h5 hh => TkR.no h5
  have hbad := @trV_bad t
  have hpre := @trV_pre t
  have hPt := c_spec_trPaths t
  have hpv : prV t = if szOk t then match decT false t.lab (btL t.sh) with | some (P, _) => .tup [eS (some P), .bool (decide ((P.length : Int) = t.en.size))] | none => .tup [.nils, .bool false] else .tup [.nils, .bool false] := rfl
  have hat : atB t.en = fun i => (numW (lI t.en.words)).testBit i := rfl
  have hVP := @trV_P t
  have hVn : decT false t.lab (btL t.sh) = none → trV t = none := fun h5 => by
    unfold trV
    rw [h5]
    split <;> rfl
  have hVl : ∀ {P a}, decT false t.lab (btL t.sh) = some (P, a) → ¬ (P.length : Int) = t.en.size → trV t = none := fun h5 h7 => by
    unfold trV
    rw [h5]
    simp only
    rw [if_neg h7]
    split <;> rfl
  have hTk : ∀ o b, ((b = true ∧ trV t = some (lS o)) ∨ (b = false ∧ trV t = none)) → TkR t (.tup [eS o, .bool b]) := fun o b h1 => ⟨o, b, rfl, h1⟩
  obtain ⟨⟨ss, sw⟩, ⟨es, ew⟩, lab⟩ := t
  (try (simp (disch := first | omega | (simp <;> omega) | fail) only [push_cast, ↓reduceIte, Nat.reduceEqDiff, Nat.reduceAdd, Nat.reduceMul, Nat.reduceSub, Nat.reduceLT, Int.reduceToNat]))
  refine (c_spec_biGood ⟨ss, sw⟩).call ?_
  cases h1 : okBt ⟨ss, sw⟩
  · have hn := hno (hbad (by simp [okT0, h1]))
    (try (simp (disch := first | omega | (simp <;> omega) | fail) only [push_cast, ↓reduceIte, Nat.reduceEqDiff, Nat.reduceAdd, Nat.reduceMul, Nat.reduceSub, Nat.reduceLT, Int.reduceToNat]))
    all_goals (try exact hn _)
  (try (simp (disch := first | omega | (simp <;> omega) | fail) only [push_cast, ↓reduceIte, Nat.reduceEqDiff, Nat.reduceAdd, Nat.reduceMul, Nat.reduceSub, Nat.reduceLT, Int.reduceToNat]))
  refine (c_spec_biGood ⟨es, ew⟩).call ?_
  cases h2 : okBt ⟨es, ew⟩
  · have hn := hno (hbad (by simp [okT0, h2]))
    (try (simp (disch := first | omega | (simp <;> omega) | fail) only [push_cast, ↓reduceIte, Nat.reduceEqDiff, Nat.reduceAdd, Nat.reduceMul, Nat.reduceSub, Nat.reduceLT, Int.reduceToNat]))
    all_goals (try exact hn _)
  (try (simp (disch := first | omega | (simp <;> omega) | fail) only [push_cast, ↓reduceIte, Nat.reduceEqDiff, Nat.reduceAdd, Nat.reduceMul, Nat.reduceSub, Nat.reduceLT, Int.reduceToNat]))
  have hP := hPt h1 h2
  rw [hpv] at hP
  simp only at hP
  have h0 := hpre h1 h2
  cases hsz : szOk ⟨⟨ss, sw⟩, ⟨es, ew⟩, lab⟩
  · have hn := hno (hbad (by rw [h0]; exact hsz))
    rw [hsz, if_neg (by simp)] at hP
    refine hP.call ?_
    (try (simp (disch := first | omega | (simp <;> omega) | fail) only [push_cast, ↓reduceIte, Nat.reduceEqDiff, Nat.reduceAdd, Nat.reduceMul, Nat.reduceSub, Nat.reduceLT, Int.reduceToNat]))
    all_goals (try exact hn _)
  rw [hsz] at h0
  rw [hsz, if_pos rfl] at hP
  cases hd : decT false lab (btL ⟨ss, sw⟩) with
  | none =>
    have hn := hno (hVn hd)
    rw [hd] at hP
    simp only at hP
    refine hP.call ?_
    (try (simp (disch := first | omega | (simp <;> omega) | fail) only [push_cast, ↓reduceIte, Nat.reduceEqDiff, Nat.reduceAdd, Nat.reduceMul, Nat.reduceSub, Nat.reduceLT, Int.reduceToNat]))
    all_goals (try exact hn _)
  | some Pa =>
    obtain ⟨P, a⟩ := Pa
    rw [hd] at hP
    simp only at hP
    by_cases hPl : (P.length : Int) = es
    · rw [decide_eq_true hPl] at hP
      refine hP.call ?_
      have hV := hVP h0 hd hPl
      obtain ⟨e1, e2, e3, e4⟩ := okBt_num h2
      simp only at e1 e2 e3 e4 hat
      have hPn : P.length ≤ 4096 := by omega
      have hlP : lS (some P) = P := rfl
      have hlPl : (lS (some P)).length = P.length := rfl
      obtain ⟨At, hAt⟩ : ∃ At, At = atB ⟨es, ew⟩ := ⟨_, rfl⟩
      have hks : trKs P ⟨⟨ss, sw⟩, ⟨es, ew⟩, lab⟩ = (endsTo P At P.length).foldl putS [] := by rw [hAt]; rfl
      rw [hks] at hV
      rw [← hAt] at hat
      generalize hR : trV ⟨⟨ss, sw⟩, ⟨es, ew⟩, lab⟩ = R at *
      clear hP hVP hVl hVn hbad hpre hks hpv hPt hAt hd h0 hsz
      (try (simp (disch := first | omega | (simp <;> omega) | fail) only [push_cast, ↓reduceIte, Nat.reduceEqDiff, Nat.reduceAdd, Nat.reduceMul, Nat.reduceSub, Nat.reduceLT, Int.reduceToNat, hlP]))
      refine T_for P.length (fun k e h' => ∃ v l B, Pins e [(0, eTr ⟨⟨ss, sw⟩, ⟨es, ew⟩, lab⟩), (1, .adr h.length 0), (4, eS (some P)), (6, v), (27, eS (some P)), (28, .int .i64 P.length), (29, .int .i64 k)] ∧ (H.cells h' h.length = some [.int .i64 ss, eI sw, .int .i64 es, eI ew, .str lab] ∧ h.length + 1 ≤ h'.length ∧ S1 h' 1 v l.length (l.map .str) B ∧ ∀ b ∈ B, h.length + 1 ≤ b) ∧ l = (endsTo P At k).foldl putS [] ∧ l.length ≤ k) ?_ ?_
      · refine ⟨.nils, [], [], ?_⟩
        (try (simp (disch := first | omega | (simp <;> omega) | fail) only [push_cast, ↓reduceIte, Nat.reduceEqDiff, Nat.reduceAdd, Nat.reduceMul, Nat.reduceSub, Nat.reduceLT, Int.reduceToNat, hlP]))
        all_goals (try exact ⟨⟨S1.nil, by simp⟩, by simp [endsTo]⟩)
        all_goals (try exact ⟨⟨by rw [cells_h0]; rfl, by simp, S1.nil, by simp⟩, by simp [endsTo], by simp⟩)
      rintro k e h' hk ⟨v, l, B, hp, ⟨hbx, hln, hs, hB⟩, hl, hlk⟩
      refine T_pins hp fun e => ?_
      (try (simp (disch := first | omega | (simp <;> omega) | fail) only [push_cast, ↓reduceIte, Nat.reduceEqDiff, Nat.reduceAdd, Nat.reduceMul, Nat.reduceSub, Nat.reduceLT, Int.reduceToNat, hlP]))
      first | refine goC_split (fun hc => ?_) (fun hc => ?_) | refine cnd_split (fun hc => ?_) (fun hc => ?_)
      · (try (simp only [decide_eq_true_eq, decide_eq_false_iff_not, Bool.not_eq_true', Bool.not_eq_false', Bool.and_eq_true, Bool.or_eq_true, Int.not_lt, Int.not_le] at hc)); (try (simp (disch := first | omega | (simp <;> omega) | fail) only [push_cast, ↓reduceIte, Nat.reduceEqDiff, Nat.reduceAdd, Nat.reduceMul, Nat.reduceSub, Nat.reduceLT, Int.reduceToNat]))
        have hk2 : k < P.length := by omega
        have hgs : ((lS (some P)).map AV.str)[k]? = some (.str (P.getD k [])) := get_S hk2
        have hgs2 : (P.map AV.str)[k]? = some (.str (P.getD k [])) := hgs
        (try (simp (disch := first | omega | (simp <;> omega) | fail) only [push_cast, ↓reduceIte, Nat.reduceEqDiff, Nat.reduceAdd, Nat.reduceMul, Nat.reduceSub, Nat.reduceLT, Int.reduceToNat, hlP, hbx]))
        refine (c_spec_biAt ⟨es, ew⟩ (numW (lI ew)) (lI ew).length k e1 (by omega) (by omega)).call ?_
        rw [show (numW (lI ew)).testBit k = At k by rw [hat]]
        cases hb : At k
        · have hnx : l = (endsTo P At (k + 1)).foldl putS [] := by
            rw [endsTo_succ, hb]
            exact hl
          (try (simp (disch := first | omega | (simp <;> omega) | fail) only [push_cast, ↓reduceIte, Nat.reduceEqDiff, Nat.reduceAdd, Nat.reduceMul, Nat.reduceSub, Nat.reduceLT, Int.reduceToNat]))
          all_goals (try exact ⟨v, l, B, rfl, ⟨hbx, hs, hB⟩, hnx, by omega⟩)
          all_goals (try exact ⟨l, B, ⟨hbx, hln, hs, hB⟩, hnx, by omega⟩)
        · have hnx : putS l (P.getD k []) = (endsTo P At (k + 1)).foldl putS [] := by
            rw [endsTo_succ, hb, if_pos rfl, List.foldl_append, ← hl]
            rfl
          (try (simp (disch := first | omega | (simp <;> omega) | fail) only [push_cast, ↓reduceIte, Nat.reduceEqDiff, Nat.reduceAdd, Nat.reduceMul, Nat.reduceSub, Nat.reduceLT, Int.reduceToNat]))
          refine (c_spec_l1PutS_x v l B _ _ hs (by omega)).mono (fun x h2 hx => ?_) (fun _ _ hb => hb.elim)
          obtain ⟨u1, u2, l2, B2, u3, u4, u5⟩ := hx
          have hbx2 := cells_keep (u2 h.length (by omega)) hbx
          have hl2 := putS_len (s := P.getD k []) (l := l)
          rw [← u5] at hl2 hnx
          have hB2 : ∀ b ∈ B2, h.length + 1 ≤ b := fun b hb => by
            rcases u4 b hb with h5 | h5
            · exact hB b h5
            · omega
          (try (simp (disch := first | omega | (simp <;> omega) | fail) only [push_cast, ↓reduceIte, Nat.reduceEqDiff, Nat.reduceAdd, Nat.reduceMul, Nat.reduceSub, Nat.reduceLT, Int.reduceToNat]))
          all_goals (try exact ⟨x, l2, B2, rfl, ⟨hbx2, u3, hB2⟩, hnx, by omega⟩)
          all_goals (try exact ⟨l2, B2, ⟨hbx2, by omega, u3, hB2⟩, hnx, by omega⟩)
      · (try (simp only [decide_eq_true_eq, decide_eq_false_iff_not, Bool.not_eq_true', Bool.not_eq_false', Bool.and_eq_true, Bool.or_eq_true, Int.not_lt, Int.not_le] at hc)); (try (simp (disch := first | omega | (simp <;> omega) | fail) only [push_cast, ↓reduceIte, Nat.reduceEqDiff, Nat.reduceAdd, Nat.reduceMul, Nat.reduceSub, Nat.reduceLT, Int.reduceToNat]))
        have hke : k = P.length := by omega
        subst hke
        rw [← hl] at hV
        obtain ⟨o4, w4, l4⟩ := S1.vwS0 (n0 := 0) hs (fun _ _ => Nat.zero_le _)
        (try (simp (disch := first | omega | (simp <;> omega) | fail) only [push_cast, ↓reduceIte, Nat.reduceEqDiff, Nat.reduceAdd, Nat.reduceMul, Nat.reduceSub, Nat.reduceLT, Int.reduceToNat]))
        refine (c_spec_biKeys o4).lendL (.cons w4 .nil) own_bool ?_
        rw [l4]
        cases hok4 : okKeys l
        · have hn := hno (by rw [hV, hok4]; rfl)
          (try (simp (disch := first | omega | (simp <;> omega) | fail) only [push_cast, ↓reduceIte, Nat.reduceEqDiff, Nat.reduceAdd, Nat.reduceMul, Nat.reduceSub, Nat.reduceLT, Int.reduceToNat]))
          all_goals (try exact hn _)
        rw [hok4, Bool.true_and] at hV
        have ht := c_spec_trOf_o o4 (by rw [l4]; exact hok4)
        rw [l4] at ht
        (try (simp (disch := first | omega | (simp <;> omega) | fail) only [push_cast, ↓reduceIte, Nat.reduceEqDiff, Nat.reduceAdd, Nat.reduceMul, Nat.reduceSub, Nat.reduceLT, Int.reduceToNat]))
        refine ht.goL (.cons w4 .nil) fun x t g1 hR hx how => ?_
        subst hR
        obtain ⟨x2, x4, F2, F4, rfl, f2, f4, f5, f6, _⟩ := ow_trE how
        obtain ⟨p1, p2⟩ := ow_eI f2
        obtain ⟨p3, p4⟩ := ow_eI f4
        have hxl := hx.len
        generalize tK l = T at *
        have v5 : ∀ l, Vw (g1 ++ l) 0 (.agg [.int .i64 T.sh.size, x2]) (eB T.sh) := fun l => (Ow.aggOf (ts := cB T.sh) (.atom rfl (f2.frame fun c hc => List.getElem?_append_left (f5 c hc).2))).vw0
        have v7 : ∀ l, Vw (g1 ++ l) 0 (.agg [.int .i64 T.en.size, x4]) (eB T.en) := fun l => (Ow.aggOf (ts := cB T.en) (.atom rfl (f4.frame fun c hc => List.getElem?_append_left (f6 c hc).1.2))).vw0
        have hbx1 : ∀ l, H.cells (g1 ++ l) h.length = some [.int .i64 ss, eI sw, .int .i64 es, eI ew, .str lab] := fun l => cells_app (hx.cells hbx)
        have hkk : ∀ l : H, S1 (g1 ++ l) 1 v (lS o4).length ((lS o4).map .str) B := fun l => by
          rw [l4]
          exact hs.frame fun c hc => (List.getElem?_append_left (by have := hs.lt c hc; omega)).trans (hx.at_ (hs.lt c hc))
        have hvv : ∀ l : H, ∃ o, Vw (g1 ++ l) h.length v (eS o) ∧ lS o = lS o4 := fun l => (hkk l).vwS0 fun b hb => by have := hB b hb; omega
        have hsm : sameT T ⟨⟨ss, sw⟩, ⟨es, ew⟩, lab⟩ = (sameB ⟨ss, sw⟩ T.sh && (sameB ⟨es, ew⟩ T.en && decide (T.lab = lab))) := by
          rw [sameB_comm ⟨ss, sw⟩, sameB_comm ⟨es, ew⟩]
          rfl
        rw [hsm] at hV
        have hfin : ∀ (l' : H) (b : Bool), b = (sameB ⟨ss, sw⟩ T.sh && (sameB ⟨es, ew⟩ T.en && decide (T.lab = lab))) → ∃ t', Vw (g1 ++ l') h.length (.tup [v, .bool b]) t' ∧ TkR ⟨⟨ss, sw⟩, ⟨es, ew⟩, lab⟩ t' := fun l' b hb => by
          obtain ⟨o, q1, q2⟩ := hvv l'
          refine ⟨.tup [eS o, .bool b], vw_tupT q1 (.free free_bool), hTk _ _ ?_⟩
          rw [hb, hV]
          cases hsb : (sameB ⟨ss, sw⟩ T.sh && (sameB ⟨es, ew⟩ T.en && decide (T.lab = lab)))
          · exact .inr ⟨rfl, rfl⟩
          · exact .inl ⟨rfl, by rw [if_pos rfl, q2, l4]⟩
        have hpm : (h.length ≤ g1.length) = True := eq_true (by omega)
        (try (simp (disch := first | omega | (simp <;> omega) | fail) only [push_cast, ↓reduceIte, Nat.reduceEqDiff, Nat.reduceAdd, Nat.reduceMul, Nat.reduceSub, Nat.reduceLT, Int.reduceToNat, p1, p2, p3, p4, hpm, or_true, true_and, hbx1, reads, List.mem_cons, List.mem_append, List.not_mem_nil, nat_ff, or_self, or_false, false_or, not_false_eq_true]))
        refine (c_spec_biSame ⟨ss, sw⟩ T.sh).lendL (.free (free_eB (b := ⟨ss, sw⟩)) (.cons (v5 _) .nil)) own_bool ?_
        cases hs1 : sameB ⟨ss, sw⟩ T.sh
        · have hf := fun l => hfin l false (by rw [hs1]; rfl)
          (try (simp (disch := first | omega | (simp <;> omega) | fail) only [push_cast, ↓reduceIte, Nat.reduceEqDiff, Nat.reduceAdd, Nat.reduceMul, Nat.reduceSub, Nat.reduceLT, Int.reduceToNat, p1, p2, p3, p4, hpm, hbx1, reads, List.mem_cons, List.mem_append, List.not_mem_nil, nat_ff, or_self, or_false, false_or, not_false_eq_true]))
          all_goals (try exact hf _)
        · rw [hs1] at hfin
          (try (simp (disch := first | omega | (simp <;> omega) | fail) only [push_cast, ↓reduceIte, Nat.reduceEqDiff, Nat.reduceAdd, Nat.reduceMul, Nat.reduceSub, Nat.reduceLT, Int.reduceToNat, p1, p2, p3, p4, hpm, hbx1, reads, List.mem_cons, List.mem_append, List.not_mem_nil, nat_ff, or_self, or_false, false_or, not_false_eq_true]))
          refine (c_spec_biSame ⟨es, ew⟩ T.en).lendL (.free (free_eB (b := ⟨es, ew⟩)) (.cons (v7 _) .nil)) own_bool ?_
          cases hs2 : sameB ⟨es, ew⟩ T.en
          · have hf := fun l => hfin l false (by rw [hs2]; rfl)
            (try (simp (disch := first | omega | (simp <;> omega) | fail) only [push_cast, ↓reduceIte, Nat.reduceEqDiff, Nat.reduceAdd, Nat.reduceMul, Nat.reduceSub, Nat.reduceLT, Int.reduceToNat, p1, p2, p3, p4, hpm, hbx1, reads, List.mem_cons, List.mem_append, List.not_mem_nil, nat_ff, or_self, or_false, false_or, not_false_eq_true]))
            all_goals (try exact hf _)
          · have hf := fun l => hfin l (decide (T.lab = lab)) (by rw [hs2]; rfl)
            have hf2 := fun l => hfin l (decide (lab = T.lab)) (by rw [hs2]; simp [eq_comm])
            (try (simp (disch := first | omega | (simp <;> omega) | fail) only [push_cast, ↓reduceIte, Nat.reduceEqDiff, Nat.reduceAdd, Nat.reduceMul, Nat.reduceSub, Nat.reduceLT, Int.reduceToNat, p1, p2, p3, p4, hpm, hbx1, reads, List.mem_cons, List.mem_append, List.not_mem_nil, nat_ff, or_self, or_false, false_or, not_false_eq_true]))
            all_goals (try exact hf2 _)
            all_goals (try exact hf _)
    · have hn := hno (hVl hd hPl)
      rw [decide_eq_false hPl] at hP
      refine hP.call ?_
      (try (simp (disch := first | omega | (simp <;> omega) | fail) only [push_cast, ↓reduceIte, Nat.reduceEqDiff, Nat.reduceAdd, Nat.reduceMul, Nat.reduceSub, Nat.reduceLT, Int.reduceToNat]))
      all_goals (try exact hn _)

end Go.Proofs.YtdkgoaiodjokpaaGreat.M
