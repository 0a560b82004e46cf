/-
  What the functions return.
-/
import Derived.Test.YtoappkfndnggnaaDoorFb
import Derived.Test.YtoappkfndnggnaaDoorShelf
import Derived.Test.YtoappkfndnggnaaDoorCa
namespace Go.Proofs.YtoappkfndnggnaaDoor.M
open Go Go.RowKit
set_option linter.unusedVariables false
set_option linter.unusedSimpArgs false
set_option maxRecDepth 4000

theorem c_spec_stPlain (s : Str) : Fn Tryd.prog 65 [.str s] (· = .bool (plainV s)) := by
  refine Fn.of free_bool fun h => ?_
  refine enter (by kernel_rfl) e65 (by kernel_rfl) rfl fun hok => ?_
  simp only [r65, initEnv_1]
  have hlen := (okV_0 hok).str
  (try (simp (disch := first | omega | (simp <;> omega) | fail) only [push_cast, ↓reduceIte, Nat.reduceEqDiff, Nat.reduceAdd, Nat.reduceMul, Nat.reduceSub, Nat.reduceLT, Int.reduceToNat]))
  refine T_for s.length (fun i e h' => Pins e [(0, .str s), (3, .int .i64 i)] ∧ h' = h ∧ plain (s.take i) = true) ?_ ?_
  · (try (simp (disch := first | omega | (simp <;> omega) | fail) only [push_cast, ↓reduceIte, Nat.reduceEqDiff, Nat.reduceAdd, Nat.reduceMul, Nat.reduceSub, Nat.reduceLT, Int.reduceToNat]))
    all_goals (try simp [plain])
  rintro i e h' hi ⟨hp, rfl, ha⟩
  refine T_pins hp fun e => ?_
  (try (simp (disch := first | omega | (simp <;> omega) | fail) only [push_cast, ↓reduceIte, Nat.reduceEqDiff, Nat.reduceAdd, Nat.reduceMul, Nat.reduceSub, Nat.reduceLT, Int.reduceToNat]))
  first | refine goC_split (fun hc => ?_) (fun hc => ?_) | refine cnd_split (fun hc => ?_) (fun hc => ?_)
  · (try (simp only [decide_eq_true_eq, decide_eq_false_iff_not, Bool.not_eq_true', Bool.not_eq_false', Bool.and_eq_true, Bool.or_eq_true, Int.not_lt, Int.not_le] at hc)); (try (simp (disch := first | omega | (simp <;> omega) | fail) only [push_cast, ↓reduceIte, Nat.reduceEqDiff, Nat.reduceAdd, Nat.reduceMul, Nat.reduceSub, Nat.reduceLT, Int.reduceToNat]))
    have hi2 : i < s.length := by omega
    have hpt := plain_take hi2
    cases hk : okCh (s.getD i 0)
    · have hno := plain_no hi2 hk
      unfold plainV
      rw [hno]
      simp only [okCh, Bool.and_eq_false_iff, decide_eq_false_iff_not] at hk
      by_cases h32 : ((s.getD i 0).toNat : Int) < 32
      · (try (simp (disch := first | omega | (simp <;> omega) | fail) only [push_cast, ↓reduceIte, Nat.reduceEqDiff, Nat.reduceAdd, Nat.reduceMul, Nat.reduceSub, Nat.reduceLT, Int.reduceToNat]))
      · have h125 : 125 < ((s.getD i 0).toNat : Int) := by omega
        (try (simp (disch := first | omega | (simp <;> omega) | fail) only [push_cast, ↓reduceIte, Nat.reduceEqDiff, Nat.reduceAdd, Nat.reduceMul, Nat.reduceSub, Nat.reduceLT, Int.reduceToNat]))
    · have hk2 := hk
      simp only [okCh, Bool.and_eq_true, decide_eq_true_eq] at hk2
      obtain ⟨hk3, hk4⟩ := hk2
      (try (simp (disch := first | omega | (simp <;> omega) | fail) only [push_cast, ↓reduceIte, Nat.reduceEqDiff, Nat.reduceAdd, Nat.reduceMul, Nat.reduceSub, Nat.reduceLT, Int.reduceToNat]))
      rw [hpt, ha, hk]
      all_goals (try rfl)
  · (try (simp only [decide_eq_true_eq, decide_eq_false_iff_not, Bool.not_eq_true', Bool.not_eq_false', Bool.and_eq_true, Bool.or_eq_true, Int.not_lt, Int.not_le] at hc)); (try (simp (disch := first | omega | (simp <;> omega) | fail) only [push_cast, ↓reduceIte, Nat.reduceEqDiff, Nat.reduceAdd, Nat.reduceMul, Nat.reduceSub, Nat.reduceLT, Int.reduceToNat]))
    have he : s.take i = s := List.take_of_length_le (by omega)
    rw [he] at ha
    unfold plainV
    rw [ha]
    (first | refine goC_split (fun hc => ?_) (fun hc => ?_) | refine cnd_split (fun hc => ?_) (fun hc => ?_)) <;> ((try (simp (disch := first | omega | (simp <;> omega) | fail) only [push_cast, ↓reduceIte, Nat.reduceEqDiff, Nat.reduceAdd, Nat.reduceMul, Nat.reduceSub, Nat.reduceLT, Int.reduceToNat]))) <;> (try rw [hc])

theorem c_spec_l1Num (n : Nat) (hn : n < 1000000000000) : Fn Tryd.prog 57 [.int .i64 n] (· = .str (Lib.decDigits n)) := by
  induction n using Nat.strongRecOn with
  | _ n ih =>
    refine Fn.of free_str fun h => ?_
    refine enter (by kernel_rfl) e57 (by kernel_rfl) rfl fun hok => ?_
    simp only [r57, initEnv_1]
    rw [dec_rec]
    (try (simp (disch := first | omega | (simp <;> omega) | fail) only [push_cast, ↓reduceIte, Nat.reduceEqDiff, Nat.reduceAdd, Nat.reduceMul, Nat.reduceSub, Nat.reduceLT, Int.reduceToNat]))
    first | refine goC_split (fun hc => ?_) (fun hc => ?_) | refine cnd_split (fun hc => ?_) (fun hc => ?_)
    · have hc2 : n < 10 := by
        simp only [decide_eq_true_eq] at hc
        omega
      have e1 : ((48 : Int) + n).toNat = 48 + n := by omega
      rw [if_pos hc2]
      (try (simp only [decide_eq_true_eq, decide_eq_false_iff_not, Bool.not_eq_true', Bool.not_eq_false', Bool.and_eq_true, Bool.or_eq_true, Int.not_lt, Int.not_le] at hc)); (try (simp (disch := first | omega | (simp <;> omega) | fail) only [push_cast, ↓reduceIte, Nat.reduceEqDiff, Nat.reduceAdd, Nat.reduceMul, Nat.reduceSub, Nat.reduceLT, Int.reduceToNat]))
      (try (simp (disch := first | omega | (simp <;> omega) | fail) only [push_cast, ↓reduceIte, Nat.reduceEqDiff, Nat.reduceAdd, Nat.reduceMul, Nat.reduceSub, Nat.reduceLT, Int.reduceToNat, e1]))
    · have hc2 : ¬ n < 10 := by
        simp only [decide_eq_false_iff_not] at hc
        omega
      have e1 : ((48 : Int) + (n : Int) % 10).toNat = 48 + n % 10 := by omega
      have e2 : ((n / 10 : Nat) : Int) = (n : Int) / 10 := by omega
      have hm : 0 ≤ (n : Int) % 10 ∧ (n : Int) % 10 ≤ 9 := by omega
      have hrec := ih (n / 10) (by omega) (by omega)
      rw [e2] at hrec
      have hdl := dec_len (n := n / 10) (by omega)
      rw [if_neg hc2]
      (try (simp only [decide_eq_true_eq, decide_eq_false_iff_not, Bool.not_eq_true', Bool.not_eq_false', Bool.and_eq_true, Bool.or_eq_true, Int.not_lt, Int.not_le] at hc)); (try (simp (disch := first | omega | (simp <;> omega) | fail) only [push_cast, ↓reduceIte, Nat.reduceEqDiff, Nat.reduceAdd, Nat.reduceMul, Nat.reduceSub, Nat.reduceLT, Int.reduceToNat]))
      refine ⟨?_, ?_⟩
      · refine hrec.call ?_
        (try (simp (disch := first | omega | (simp <;> omega) | fail) only [push_cast, ↓reduceIte, Nat.reduceEqDiff, Nat.reduceAdd, Nat.reduceMul, Nat.reduceSub, Nat.reduceLT, Int.reduceToNat, e1]))
      · (try (simp (disch := first | omega | (simp <;> omega) | fail) only [push_cast, ↓reduceIte, Nat.reduceEqDiff, Nat.reduceAdd, Nat.reduceMul, Nat.reduceSub, Nat.reduceLT, Int.reduceToNat, e1]))
        refine hrec.call ?_
        (try (simp (disch := first | omega | (simp <;> omega) | fail) only [push_cast, ↓reduceIte, Nat.reduceEqDiff, Nat.reduceAdd, Nat.reduceMul, Nat.reduceSub, Nat.reduceLT, Int.reduceToNat, e1]))
theorem c_spec_l1Num_i (n : Int) (h0 : 0 ≤ n) (h1 : n < 1000000000000) : Fn Tryd.prog 57 [.int .i64 n] (· = .str (Lib.itoa n)) := by
  obtain ⟨m, rfl⟩ : ∃ m : Nat, n = (m : Int) := ⟨n.toNat, by omega⟩
  rw [itoa_nn (by omega), Int.toNat_natCast]
  exact c_spec_l1Num m (by omega)

theorem c_spec_stSeal (s : Str) (hl : s.length ≤ 1000000000) : Fn Tryd.prog 66 [.str s] (· = .str (sealT s)) := by
  refine Fn.of free_str fun h => ?_
  refine enter (by kernel_rfl) e66 (by kernel_rfl) rfl fun hok => ?_
  simp only [r66, initEnv_1]
  (try (simp (disch := first | omega | (simp <;> omega) | fail) only [push_cast, ↓reduceIte, Nat.reduceEqDiff, Nat.reduceAdd, Nat.reduceMul, Nat.reduceSub, Nat.reduceLT, Int.reduceToNat]))
  refine T_for s.length (fun i e h' => Pins e [(0, .str s), (3, .int .i64 (chk s i)), (4, .int .i64 i)] ∧ h' = h) ?_ ?_
  · (try (simp (disch := first | omega | (simp <;> omega) | fail) only [push_cast, ↓reduceIte, Nat.reduceEqDiff, Nat.reduceAdd, Nat.reduceMul, Nat.reduceSub, Nat.reduceLT, Int.reduceToNat]))
    all_goals (try rfl)
  rintro i e h' hi ⟨hp, rfl⟩
  refine T_pins hp fun e => ?_
  obtain ⟨k0, k1⟩ := chk_bd s i
  (try (simp (disch := first | omega | (simp <;> omega) | fail) only [push_cast, ↓reduceIte, Nat.reduceEqDiff, Nat.reduceAdd, Nat.reduceMul, Nat.reduceSub, Nat.reduceLT, Int.reduceToNat]))
  first | refine goC_split (fun hc => ?_) (fun hc => ?_) | refine cnd_split (fun hc => ?_) (fun hc => ?_)
  · (try (simp only [decide_eq_true_eq, decide_eq_false_iff_not, Bool.not_eq_true', Bool.not_eq_false', Bool.and_eq_true, Bool.or_eq_true, Int.not_lt, Int.not_le] at hc)); (try (simp (disch := first | omega | (simp <;> omega) | fail) only [push_cast, ↓reduceIte, Nat.reduceEqDiff, Nat.reduceAdd, Nat.reduceMul, Nat.reduceSub, Nat.reduceLT, Int.reduceToNat]))
    have hi2 : i < s.length := by omega
    have hcb : (s.getD i 0).toNat < 256 := UInt8.toNat_lt _
    have hm := mul_bd (x := (i : Int) + 1) (y := ((s.getD i 0).toNat : Int)) (a := 1000000001) (b := 255) (by omega) (by omega) (by omega) (by omega)
    have hs : chk s (i + 1) = (chk s i + ((i : Int) + 1) * ((s.getD i 0).toNat : Int)) % 65521 := rfl
    (try (simp (disch := first | omega | (simp <;> omega) | fail) only [push_cast, ↓reduceIte, Nat.reduceEqDiff, Nat.reduceAdd, Nat.reduceMul, Nat.reduceSub, Nat.reduceLT, Int.reduceToNat]))
    all_goals (try (rw [hs]))
  · (try (simp only [decide_eq_true_eq, decide_eq_false_iff_not, Bool.not_eq_true', Bool.not_eq_false', Bool.and_eq_true, Bool.or_eq_true, Int.not_lt, Int.not_le] at hc)); (try (simp (disch := first | omega | (simp <;> omega) | fail) only [push_cast, ↓reduceIte, Nat.reduceEqDiff, Nat.reduceAdd, Nat.reduceMul, Nat.reduceSub, Nat.reduceLT, Int.reduceToNat]))
    have hie : i = s.length := by omega
    subst hie
    obtain ⟨n, hn⟩ : ∃ n : Nat, chk s s.length = (n : Int) := ⟨_, (Int.toNat_of_nonneg k0).symm⟩
    have hdl := dec_len (n := n) (by omega)
    have hst : sealT s = s ++ 126 :: Lib.decDigits n := by
      unfold sealT
      rw [hn, Int.toNat_natCast]
    rw [hn]
    (try (simp (disch := first | omega | (simp <;> omega) | fail) only [push_cast, ↓reduceIte, Nat.reduceEqDiff, Nat.reduceAdd, Nat.reduceMul, Nat.reduceSub, Nat.reduceLT, Int.reduceToNat]))
    refine (c_spec_l1Num n (by omega)).call ?_
    (try (simp (disch := first | omega | (simp <;> omega) | fail) only [push_cast, ↓reduceIte, Nat.reduceEqDiff, Nat.reduceAdd, Nat.reduceMul, Nat.reduceSub, Nat.reduceLT, Int.reduceToNat]))
    rw [hst]
    all_goals (try simp)

def beforeT (s : Str) : Str := s.takeWhile fun c => c != 126
def openOk (s t : Str) : Bool := plainV t && decide (sealT t = s)
def openV (s : Str) : AV := if openOk s (beforeT s) then .tup [.str (beforeT s), .bool true] else .tup [.str [], .bool false]
theorem free_openV {s : Str} : Free (openV s) := by
  unfold openV
  split <;> exact free_tup (free_cons_ free_str (free_cons_ free_bool free_nil_))
theorem plain_no126 {t : Str} (h : plain t = true) : ∀ c ∈ t, (c != 126) = true := by
  intro c hc
  have := List.all_eq_true.1 h c hc
  simp only [okCh, Bool.and_eq_true, decide_eq_true_eq] at this
  simp only [bne_iff_ne, ne_eq]
  intro he
  subst he
  simp at this
theorem plainV_plain {t : Str} (h : plainV t = true) : plain t = true := by
  simp only [plainV, Bool.and_eq_true] at h
  exact h.1
theorem before_app {t r : Str} (h : ∀ c ∈ t, (c != 126) = true) : beforeT (t ++ 126 :: r) = t := by
  unfold beforeT
  rw [List.takeWhile_append_of_pos h]
  simp
theorem sealT_len (t : Str) : t.length < (sealT t).length := by
  unfold sealT
  simp
theorem dec_no126 {n : Nat} : (126 : UInt8) ∉ Lib.decDigits n := fun h => by
  have := dec_plain n 126 h
  simp at this
theorem before_no : ∀ {s : Str}, (126 : UInt8) ∉ s → beforeT s = s
  | [], _ => rfl
  | c :: s, h => by
    simp only [List.mem_cons, not_or] at h
    have ih := before_no h.2
    have hc : (c != 126) = true := by simpa using Ne.symm h.1
    unfold beforeT at ih ⊢
    rw [List.takeWhile_cons, if_pos hc, ih]
theorem open_none {s : Str} (h : (126 : UInt8) ∉ s) : openOk s (beforeT s) = false := by
  rw [before_no h]
  unfold openOk
  have := sealT_len s
  have hne : sealT s ≠ s := fun he => by
    rw [he] at this
    omega
  simp [hne]
theorem split_at {s : Str} {a : Nat} (ha : a < s.length) (hc : s.getD a 0 = 126) : s = s.take a ++ 126 :: s.drop (a + 1) := by
  have h1 : s[a] = 126 := by simpa [ha] using hc
  conv => lhs; rw [← List.take_append_drop a s, List.drop_eq_getElem_cons ha, h1]
/-- The last mark serves as well as the first. -/
theorem open_last {s : Str} {a : Nat} (ha : a < s.length) (hc : s.getD a 0 = 126) (hd : (126 : UInt8) ∉ s.drop (a + 1)) : openOk s (s.take a) = openOk s (beforeT s) ∧ (openOk s (s.take a) = true → s.take a = beforeT s) := by
  have hs := split_at ha hc
  by_cases hp : plainV (s.take a) = true
  · have hb : beforeT s = s.take a := by
      conv => lhs; rw [hs]
      exact before_app (plain_no126 (plainV_plain hp))
    rw [hb]
    exact ⟨rfl, fun _ => rfl⟩
  · have h1 : openOk s (s.take a) = false := by
      unfold openOk
      rw [Bool.not_eq_true] at hp
      rw [hp]
      rfl
    refine ⟨?_, fun h => by rw [h1] at h; cases h⟩
    rw [h1]
    cases h2 : openOk s (beforeT s) with
    | false => rfl
    | true =>
      exfalso
      simp only [openOk, Bool.and_eq_true, decide_eq_true_eq] at h2
      obtain ⟨p1, p2⟩ := h2
      generalize beforeT s = t at p1 p2
      unfold sealT at p2
      have hget : (t ++ 126 :: Lib.decDigits (chk t t.length).toNat)[a]? = some 126 := by
        rw [p2]
        simpa [ha] using hc
      rcases Nat.lt_trichotomy a t.length with h5 | h5 | h5
      · rw [List.getElem?_append_left h5] at hget
        have := plain_no126 (plainV_plain p1) 126 (List.mem_of_getElem? hget)
        simp at this
      · subst h5
        refine hp ?_
        rw [← p2, List.take_left]
        exact p1
      · rw [List.getElem?_append_right (by omega), show a - t.length = (a - t.length - 1) + 1 by omega, List.getElem?_cons_succ] at hget
        exact dec_no126 (List.mem_of_getElem? hget)

theorem c_spec_stOpen (s : Str) : Fn Tryd.prog 33 [.str s] (· = openV s) := by
  refine Fn.of free_openV fun h => ?_
  refine enter (by kernel_rfl) e33 (by kernel_rfl) rfl fun hok => ?_
  simp only [r33, initEnv_1]
  have hlen := (okV_0 hok).str
  (try (simp (disch := first | omega | (simp <;> omega) | fail) only [push_cast, ↓reduceIte, Nat.reduceEqDiff, Nat.reduceAdd, Nat.reduceMul, Nat.reduceSub, Nat.reduceLT, Int.reduceToNat]))
  refine T_for s.length (fun i e h' => Pins e [(0, .str s), (4, .int .i64 ((s.length : Int) - 1 - i))] ∧ h' = h ∧ (126 : UInt8) ∉ s.drop (s.length - i)) ?_ ?_
  · (try (simp (disch := first | omega | (simp <;> omega) | fail) only [push_cast, ↓reduceIte, Nat.reduceEqDiff, Nat.reduceAdd, Nat.reduceMul, Nat.reduceSub, Nat.reduceLT, Int.reduceToNat]))
    all_goals (try simp)
  rintro i e h' hi ⟨hp, rfl, hd⟩
  refine T_pins hp fun e => ?_
  by_cases hlt : i < s.length
  · have e1 : ((s.length : Int) - 1 - (i : Int)).toNat = s.length - 1 - i := by omega
    have hdc : s.drop (s.length - (i + 1)) = s.getD (s.length - 1 - i) 0 :: s.drop (s.length - i) := by
      rw [show s.length - (i + 1) = s.length - 1 - i by omega, List.drop_eq_getElem_cons (by omega)]
      simp [show s.length - 1 - i < s.length by omega, show s.length - 1 - i + 1 = s.length - i by omega]
    by_cases hch : ((s.getD (s.length - 1 - i) 0).toNat : Int) = 126
    · have hc2 : s.getD (s.length - 1 - i) 0 = 126 := by
        apply UInt8.toNat_inj.1
        have : (126 : UInt8).toNat = 126 := rfl
        omega
      obtain ⟨o1, o2⟩ := open_last (s := s) (a := s.length - 1 - i) (by omega) hc2 (by rw [show s.length - 1 - i + 1 = s.length - i by omega]; exact hd)
      have hnp : plainV (s.take (s.length - 1 - i)) = false ∨ (s.take (s.length - 1 - i)).length ≤ 6000 := by
        cases h5 : plainV (s.take (s.length - 1 - i)) with
        | false => exact .inl rfl
        | true =>
          right
          simp only [plainV, Bool.and_eq_true, decide_eq_true_eq] at h5
          omega
      have hA : openV s = if openOk s (s.take (s.length - 1 - i)) then .tup [.str (s.take (s.length - 1 - i)), .bool true] else .tup [.str [], .bool false] := by
        unfold openV
        rw [← o1]
        cases h5 : openOk s (s.take (s.length - 1 - i)) with
        | false => rfl
        | true => rw [o2 h5]
      rw [hA]
      (try (simp (disch := first | omega | (simp <;> omega) | fail) only [push_cast, ↓reduceIte, Nat.reduceEqDiff, Nat.reduceAdd, Nat.reduceMul, Nat.reduceSub, Nat.reduceLT, Int.reduceToNat, e1, hch, List.drop_zero, Nat.sub_zero]))
      refine (c_spec_stPlain _).call ?_
      unfold openOk
      cases h5 : plainV (s.take (s.length - 1 - i))
      · (try (simp (disch := first | omega | (simp <;> omega) | fail) only [push_cast, ↓reduceIte, Nat.reduceEqDiff, Nat.reduceAdd, Nat.reduceMul, Nat.reduceSub, Nat.reduceLT, Int.reduceToNat, e1, List.drop_zero, Nat.sub_zero]))
        all_goals (try rfl)
      · have h6 : (s.take (s.length - 1 - i)).length ≤ 6000 := by
          rcases hnp with h7 | h7
          · rw [h5] at h7; cases h7
          · exact h7
        (try (simp (disch := first | omega | (simp <;> omega) | fail) only [push_cast, ↓reduceIte, Nat.reduceEqDiff, Nat.reduceAdd, Nat.reduceMul, Nat.reduceSub, Nat.reduceLT, Int.reduceToNat, e1, List.drop_zero, Nat.sub_zero]))
        refine (c_spec_stSeal _ (by omega)).call ?_
        by_cases h8 : sealT (s.take (s.length - 1 - i)) = s
        · (try (simp (disch := first | omega | (simp <;> omega) | fail) only [push_cast, ↓reduceIte, Nat.reduceEqDiff, Nat.reduceAdd, Nat.reduceMul, Nat.reduceSub, Nat.reduceLT, Int.reduceToNat, e1, h8, List.drop_zero, Nat.sub_zero]))
          all_goals (try rfl)
        · (try (simp (disch := first | omega | (simp <;> omega) | fail) only [push_cast, ↓reduceIte, Nat.reduceEqDiff, Nat.reduceAdd, Nat.reduceMul, Nat.reduceSub, Nat.reduceLT, Int.reduceToNat, e1, h8, List.drop_zero, Nat.sub_zero]))
          all_goals (try rfl)
    · (try (simp (disch := first | omega | (simp <;> omega) | fail) only [push_cast, ↓reduceIte, Nat.reduceEqDiff, Nat.reduceAdd, Nat.reduceMul, Nat.reduceSub, Nat.reduceLT, Int.reduceToNat, e1, hch]))
      all_goals (try (refine ⟨by omega, ?_⟩))
      rw [hdc]
      simp only [List.mem_cons, not_or]
      refine ⟨fun he => hch ?_, hd⟩
      rw [← he]
      rfl
  · have hie : i = s.length := by omega
    subst hie
    have hno : (126 : UInt8) ∉ s := by simpa using hd
    have hA : openV s = .tup [.str [], .bool false] := by
      unfold openV
      rw [open_none hno]
      rfl
    rw [hA]
    (try (simp (disch := first | omega | (simp <;> omega) | fail) only [push_cast, ↓reduceIte, Nat.reduceEqDiff, Nat.reduceAdd, Nat.reduceMul, Nat.reduceSub, Nat.reduceLT, Int.reduceToNat]))
    all_goals (try rfl)

/-- Cut at each c. -/
def splitL (c : UInt8) : Str → List Str
  | [] => [[]]
  | x :: s => if x = c then [] :: splitL c s else match splitL c s with | [] => [[x]] | p :: ps => (x :: p) :: ps
theorem index_c (c b : UInt8) (l : Str) : Lib.index (b :: l) [c] = if b = c then 0 else if Lib.index l [c] = -1 then -1 else Lib.index l [c] + 1 := by
  rw [Lib.index]
  by_cases h : b = c
  · subst h
    simp
  · have h2 : ¬ c = b := fun e => h e.symm
    simp [h, h2]
theorem split_lib (c : UInt8) : ∀ s : Str, Lib.splitK [c] 0 (Lib.count s [c]) s = splitL c s
  | [] => by
    have h : Lib.index [] [c] = -1 := by simp [Lib.index]
    rw [Lib.count_miss h]
    rfl
  | b :: l => by
    have ih := split_lib c l
    have hi := index_c c b l
    by_cases h : b = c
    · rw [if_pos h] at hi
      rw [Lib.count_hit (i := 0) (by simp) hi, Nat.add_comm, Lib.splitK, hi]
      simp only [splitL, if_pos h]
      rw [← ih]
      simp
    · rw [if_neg h] at hi
      by_cases hm : Lib.index l [c] = -1
      · rw [if_pos hm] at hi
        rw [Lib.count_miss hi]
        rw [Lib.count_miss hm] at ih
        simp only [splitL, if_neg h]
        rw [← ih]
        rfl
      · rw [if_neg hm] at hi
        have hge := Lib.index_ge l [c]
        obtain ⟨i, hi2⟩ : ∃ i : Nat, Lib.index l [c] = i := ⟨(Lib.index l [c]).toNat, by omega⟩
        rw [hi2] at hi
        rw [Lib.count_hit (i := i + 1) (by simp) hi, Nat.add_comm, Lib.splitK, hi]
        rw [Lib.count_hit (i := i) (by simp) hi2, Nat.add_comm, Lib.splitK, hi2] at ih
        have e1 : (((i : Int) == -1) : Bool) = false := by simp
        have e2 : (((i : Int) + 1 == -1) : Bool) = false := by simp; omega
        rw [e1] at ih
        rw [e2]
        simp only [splitL, if_neg h]
        rw [← ih]
        simp only [Bool.false_eq_true, if_false, Int.toNat_natCast, Nat.add_zero, List.length_singleton]
        rw [show ((i : Int) + 1).toNat = i + 1 by omega]
        simp
theorem splitL_count (c : UInt8) : ∀ s : Str, (splitL c s).length = Lib.count s [c] + 1
  | [] => by
    have h : Lib.index [] [c] = -1 := by simp [Lib.index]
    rw [Lib.count_miss h]
    rfl
  | b :: l => by
    have ih := splitL_count c l
    have hi := index_c c b l
    by_cases h : b = c
    · rw [if_pos h] at hi
      rw [Lib.count_hit (i := 0) (by simp) hi]
      simp only [splitL, if_pos h, List.length_cons, ih]
      simp
      omega
    · have hc : Lib.count (b :: l) [c] = Lib.count l [c] := by
        rw [if_neg h] at hi
        by_cases hm : Lib.index l [c] = -1
        · rw [if_pos hm] at hi
          rw [Lib.count_miss hi, Lib.count_miss hm]
        · rw [if_neg hm] at hi
          have hge := Lib.index_ge l [c]
          obtain ⟨i, hi2⟩ : ∃ i : Nat, Lib.index l [c] = i := ⟨(Lib.index l [c]).toNat, by omega⟩
          rw [hi2] at hi
          rw [Lib.count_hit (i := i + 1) (by simp) hi, Lib.count_hit (i := i) (by simp) hi2]
          simp
      rw [hc]
      simp only [splitL, if_neg h]
      cases hs : splitL c l with
      | nil => rw [hs] at ih; simp at ih
      | cons p ps => rw [hs] at ih; simpa using ih
theorem splitL_ne (c : UInt8) (s : Str) : splitL c s ≠ [] := fun h => by
  have := splitL_count c s
  rw [h] at this
  simp at this
theorem splitL_no (c : UInt8) : ∀ s : Str, (∀ x ∈ s, x ≠ c) → splitL c s = [s]
  | [], _ => rfl
  | x :: s, h => by
    rw [splitL, if_neg (h x (by simp)), splitL_no c s (fun y hy => h y (List.mem_cons_of_mem _ hy))]
theorem splitL_app (c : UInt8) : ∀ p s : Str, (∀ x ∈ p, x ≠ c) → splitL c (p ++ c :: s) = p :: splitL c s
  | [], s, _ => by simp [splitL]
  | x :: p, s, h => by
    rw [List.cons_append, splitL, if_neg (h x (by simp)), splitL_app c p s (fun y hy => h y (List.mem_cons_of_mem _ hy))]
/-- The first piece, and what is behind it. -/
theorem splitL_hd (c : UInt8) : ∀ s : Str, (∃ p t, s = p ++ c :: t ∧ (∀ x ∈ p, x ≠ c) ∧ splitL c s = p :: splitL c t) ∨ ((∀ x ∈ s, x ≠ c) ∧ splitL c s = [s])
  | [] => .inr ⟨by simp, rfl⟩
  | x :: s => by
    by_cases hx : x = c
    · exact .inl ⟨[], s, by simp [hx], by simp, by simp [splitL, hx]⟩
    · rcases splitL_hd c s with ⟨p, t, h1, h2, h3⟩ | ⟨h1, h2⟩
      · exact .inl ⟨x :: p, t, by simp [h1], by
          intro y hy
          rcases List.mem_cons.1 hy with rfl | hy
          · exact hx
          · exact h2 y hy, by rw [splitL, if_neg hx, h3]⟩
      · exact .inr ⟨by
          intro y hy
          rcases List.mem_cons.1 hy with rfl | hy
          · exact hx
          · exact h1 y hy, by rw [splitL, if_neg hx, h2]⟩
theorem splitL_nohas (c : UInt8) : ∀ (s : Str) (p : Str), p ∈ splitL c s → ∀ x ∈ p, x ≠ c
  | [], p, hp => by
    simp [splitL] at hp
    subst hp
    simp
  | x :: s, p, hp => by
    rw [splitL] at hp
    split at hp
    · rcases List.mem_cons.1 hp with rfl | hp
      · simp
      · exact splitL_nohas c s p hp
    · rename_i hx
      have ih := splitL_nohas c s
      cases hs : splitL c s with
      | nil => exact absurd hs (splitL_ne c s)
      | cons q qs =>
        rw [hs] at hp ih
        rcases List.mem_cons.1 hp with rfl | hp
        · intro y hy
          rcases List.mem_cons.1 hy with rfl | hy
          · exact hx
          · exact ih q (by simp) y hy
        · exact ih p (List.mem_cons_of_mem _ hp)
theorem splitL_len (c : UInt8) : ∀ (s : Str) (p : Str), p ∈ splitL c s → p.length ≤ s.length
  | [], p, hp => by
    simp [splitL] at hp
    simp [hp]
  | x :: s, p, hp => by
    rw [splitL] at hp
    have ih := splitL_len c s
    split at hp
    · rcases List.mem_cons.1 hp with rfl | hp
      · simp
      · have := ih p hp
        simp
        omega
    · cases hs : splitL c s with
      | nil => exact absurd hs (splitL_ne c s)
      | cons q qs =>
        rw [hs] at hp ih
        rcases List.mem_cons.1 hp with rfl | hp
        · have := ih q (by simp)
          simp
          omega
        · have := ih p (List.mem_cons_of_mem _ hp)
          simp
          omega
theorem splitL_nlen (c : UInt8) : ∀ s : Str, (splitL c s).length ≤ s.length + 1
  | [] => by simp [splitL]
  | x :: s => by
    have ih := splitL_nlen c s
    rw [splitL]
    split
    · simp
      omega
    · cases hs : splitL c s with
      | nil => simp
      | cons q qs =>
        rw [hs] at ih
        simp at ih ⊢
        omega
theorem split_vals (c : UInt8) (s : Str) : (Lib.splitB ⟨#[c]⟩ 0 (Lib.countB ⟨s.toArray⟩ ⟨#[c]⟩) ⟨s.toArray⟩).map Value.string = (splitL c s).map fun p => Value.string ⟨p.toArray⟩ := by
  have h := Lib.splitB_data ⟨#[c]⟩ 0 (Lib.countB ⟨s.toArray⟩ ⟨#[c]⟩) ⟨s.toArray⟩
  have h2 : Lib.splitK [c] 0 (Lib.count s [c]) s = splitL c s := split_lib c s
  simp only [Lib.countB] at h ⊢
  rw [h2] at h
  rw [← h, List.map_map]
  refine List.map_congr_left fun x _ => ?_
  obtain ⟨⟨l⟩⟩ := x
  rfl
theorem mem_dropWhile {p : UInt8 → Bool} : ∀ {l : Str} {x : UInt8}, x ∈ l → p x = false → x ∈ l.dropWhile p
  | y :: l, x, hx, hp => by
    rw [List.dropWhile]
    split
    · rename_i h
      rcases List.mem_cons.1 hx with rfl | hx
      · rw [h] at hp; cases hp
      · exact mem_dropWhile hx hp
    · exact hx
theorem dropWhile_all {p : UInt8 → Bool} : ∀ {l : Str}, (∀ x ∈ l, p x = true) → l.dropWhile p = []
  | [], _ => rfl
  | y :: l, h => by
    rw [List.dropWhile, h y (by simp)]
    exact dropWhile_all fun x hx => h x (List.mem_cons_of_mem _ hx)
theorem trim_nil (s cs : Str) : Lib.trimS s cs = [] ↔ ∀ x ∈ s, cs.contains x = true := by
  unfold Lib.trimS Lib.trimLeftS Lib.trimRightS
  constructor
  · intro h x hx
    cases hc : cs.contains x with
    | true => rfl
    | false =>
      have h1 : x ∈ s.reverse.dropWhile (cs.contains ·) := mem_dropWhile (by simpa using hx) hc
      have h2 : x ∈ (s.reverse.dropWhile (cs.contains ·)).reverse := by simpa using h1
      have h3 := mem_dropWhile (p := (cs.contains ·)) h2 hc
      rw [h] at h3
      simp at h3
  · intro h
    rw [dropWhile_all (l := s.reverse) fun x hx => h x (by simpa using hx)]
    rfl

theorem ow_tup2 {h : H} {x t1 : AV} {q : Bool} {G : Nat → Prop} (ho : Ow h [x] [.tup [t1, .bool q]] G) : ∃ y, x = .tup [y, .bool q] ∧ Ow h [y] [t1] G := by
  obtain ⟨cs, rfl, h1⟩ := ho.openTup
  have hl : cs.length = 2 := h1.len.symm
  match cs, hl, h1 with
  | [x1, x2], _, h1 =>
    obtain ⟨F, F', f1, f2, f3, f4⟩ := h1.uncons
    have e2 : x2 = .bool q := f2.atomOf rfl
    subst e2
    exact ⟨x1, rfl, f1.mono f3⟩

theorem free_bt0 : Free (.agg [.int .i64 0, .nils]) := free_agg (free_cons_ free_int (free_cons_ free_nils free_nil_))
def is01 (c : UInt8) : Bool := decide ((c.toNat : Int) = 48) || decide ((c.toNat : Int) = 49)
def par01 (s : Str) : Bool := s.all is01
def parOk (s : Str) : Bool := (decide (1 ≤ (s.length : Int)) && decide ((s.length : Int) ≤ 4096)) && par01 s
def parG (s : Str) (i : Nat) : Bool := decide (((s.getD i 0).toNat : Int) = 49)
def parB (s : Str) : Bt := ⟨s.length, some (wordsN (mkN s.length (parG s)) ((s.length + 15) / 16))⟩
def parBt (s : Str) : Bt := if s = [45] then ⟨0, none⟩ else if parOk s then parB s else ⟨0, none⟩
def parq (s : Str) : Bool := decide (s = [45]) || parOk s
def parV (s : Str) : AV := .tup [eB (parBt s), .bool (parq s)]
theorem par_dash : parV [45] = .tup [eB ⟨0, none⟩, .bool true] := by
  unfold parV parBt parq
  simp
theorem par_no {s : Str} (h : s ≠ [45]) (hp : parOk s = false) : parV s = .tup [eB ⟨0, none⟩, .bool false] := by
  unfold parV parBt parq
  simp [h, hp]
theorem par_yes {s : Str} (h : s ≠ [45]) (hp : parOk s = true) : parV s = .tup [eB (parB s), .bool true] := by
  unfold parV parBt parq
  simp [h, hp]
theorem par01_take {s : Str} {i : Nat} (hi : i < s.length) : par01 (s.take (i + 1)) = (par01 (s.take i) && is01 (s.getD i 0)) := by
  unfold par01
  rw [List.take_add_one, List.all_append]
  simp [hi]
theorem par01_no {s : Str} {i : Nat} (hi : i < s.length) (hf : is01 (s.getD i 0) = false) : par01 s = false := by
  unfold par01
  rw [List.all_eq_false]
  exact ⟨s.getD i 0, by simp [hi], by rw [hf]; simp⟩
theorem par01_trim {s : Str} : Lib.trimS s [48, 49] = [] ↔ par01 s = true := by
  rw [trim_nil]
  unfold par01
  rw [List.all_eq_true]
  refine forall_congr' fun c => forall_congr' fun _ => ?_
  have h48 : (48 : UInt8).toNat = 48 := rfl
  have h49 : (49 : UInt8).toNat = 49 := rfl
  simp only [is01, List.contains_cons, List.contains_nil, Bool.or_false, Bool.or_eq_true, beq_iff_eq, decide_eq_true_eq]
  constructor
  · rintro (rfl | rfl)
    · exact .inl rfl
    · exact .inr rfl
  · rintro (h | h)
    · exact .inl (UInt8.toNat_inj.1 (by omega))
    · exact .inr (UInt8.toNat_inj.1 (by omega))
def parL (s : Str) (i : Nat) : List Bool := (List.range i).map (parG s)
theorem parL_len {s : Str} {i : Nat} : (parL s i).length = i := by simp [parL]
theorem parL_succ {s : Str} {i : Nat} : (parL s (i + 1)).map AV.bool = (parL s i).map AV.bool ++ [.bool (parG s i)] := by
  simp [parL, List.range_succ]
theorem mkN_congr {f g : Nat → Bool} : ∀ {n : Nat}, (∀ i, i < n → f i = g i) → mkN n f = mkN n g
  | 0, _ => rfl
  | n + 1, h => by
    rw [mkN_succ, mkN_succ, mkN_congr fun i hi => h i (by omega), h n (by omega)]
def openedV (s word : Str) : AV := if openOk s (beforeT s) = true ∧ (splitL 32 (beforeT s)).getD 0 [] = word then .tup [eS (some ((splitL 32 (beforeT s)).drop 1)), .bool true] else .tup [.nils, .bool false]
theorem free_openedV {s w : Str} : Free (openedV s w) := by
  unfold openedV
  split
  · exact free_tup (free_cons_ (free_eS_ (some _)) (free_cons_ free_bool free_nil_))
  · exact free_tup (free_cons_ free_nils (free_cons_ free_bool free_nil_))
theorem open_len {s : Str} (h : openOk s (beforeT s) = true) : (beforeT s).length ≤ 6000 := by
  simp only [openOk, plainV, Bool.and_eq_true, decide_eq_true_eq] at h
  omega

theorem c_spec_trBegins (s w : Str) (hl : s.length ≤ 1000000000) (hw : w.length ≤ 1000000000) : Fn Tryd.prog 34 [.str s, .str w] (· = .bool (decide (w.length ≤ s.length) && decide (s.take w.length = w))) := by
  refine Fn.of free_bool fun h => ?_
  refine enter (by kernel_rfl) e34 (by kernel_rfl) rfl fun hok => ?_
  simp only [r34, initEnv_2]
  (try (simp (disch := first | omega | (simp <;> omega) | fail) only [push_cast, ↓reduceIte, Nat.reduceEqDiff, Nat.reduceAdd, Nat.reduceMul, Nat.reduceSub, Nat.reduceLT, Int.reduceToNat]))
  first | refine goC_split (fun hc => ?_) (fun hc => ?_) | refine cnd_split (fun hc => ?_) (fun hc => ?_)
  · (try (simp only [decide_eq_true_eq, decide_eq_false_iff_not, Bool.not_eq_true', Bool.not_eq_false', Bool.and_eq_true, Bool.or_eq_true, Int.not_lt, Int.not_le] at hc)); (try (simp (disch := first | omega | (simp <;> omega) | fail) only [push_cast, ↓reduceIte, Nat.reduceEqDiff, Nat.reduceAdd, Nat.reduceMul, Nat.reduceSub, Nat.reduceLT, Int.reduceToNat]))
    have hc2 : w.length ≤ s.length := by omega
    by_cases he : s.take w.length = w
    · (try (simp (disch := first | omega | (simp <;> omega) | fail) only [push_cast, ↓reduceIte, Nat.reduceEqDiff, Nat.reduceAdd, Nat.reduceMul, Nat.reduceSub, Nat.reduceLT, Int.reduceToNat, List.drop_zero, Nat.sub_zero, he]))
      all_goals (try simp [hc2])
    · (try (simp (disch := first | omega | (simp <;> omega) | fail) only [push_cast, ↓reduceIte, Nat.reduceEqDiff, Nat.reduceAdd, Nat.reduceMul, Nat.reduceSub, Nat.reduceLT, Int.reduceToNat, List.drop_zero, Nat.sub_zero, he]))
      all_goals (try simp [hc2])
  · (try (simp only [decide_eq_true_eq, decide_eq_false_iff_not, Bool.not_eq_true', Bool.not_eq_false', Bool.and_eq_true, Bool.or_eq_true, Int.not_lt, Int.not_le] at hc)); (try (simp (disch := first | omega | (simp <;> omega) | fail) only [push_cast, ↓reduceIte, Nat.reduceEqDiff, Nat.reduceAdd, Nat.reduceMul, Nat.reduceSub, Nat.reduceLT, Int.reduceToNat]))
    have hc2 : ¬ w.length ≤ s.length := by omega
    all_goals (try simp [hc2])

theorem c_spec_l1In (n lo hi : Int) : Fn Tryd.prog 67 [.int .i64 n, .int .i64 lo, .int .i64 hi] (· = .bool (decide (lo ≤ n) && decide (n ≤ hi))) := by
  refine Fn.of free_bool fun h => ?_
  refine enter (by kernel_rfl) e67 (by kernel_rfl) rfl fun hok => ?_
  simp only [r67, initEnv_3]
  (try (simp (disch := first | omega | (simp <;> omega) | fail) only [push_cast, ↓reduceIte, Nat.reduceEqDiff, Nat.reduceAdd, Nat.reduceMul, Nat.reduceSub, Nat.reduceLT, Int.reduceToNat]))
  first | refine goC_split (fun hc => ?_) (fun hc => ?_) | refine cnd_split (fun hc => ?_) (fun hc => ?_)
  · (try (simp only [decide_eq_true_eq, decide_eq_false_iff_not, Bool.not_eq_true', Bool.not_eq_false', Bool.and_eq_true, Bool.or_eq_true, Int.not_lt, Int.not_le] at hc)); (try (simp (disch := first | omega | (simp <;> omega) | fail) only [push_cast, ↓reduceIte, Nat.reduceEqDiff, Nat.reduceAdd, Nat.reduceMul, Nat.reduceSub, Nat.reduceLT, Int.reduceToNat]))
    first | refine goC_split (fun hd => ?_) (fun hd => ?_) | refine cnd_split (fun hd => ?_) (fun hd => ?_)
    · (try (simp only [decide_eq_true_eq, decide_eq_false_iff_not, Bool.not_eq_true', Bool.not_eq_false', Bool.and_eq_true, Bool.or_eq_true, Int.not_lt, Int.not_le] at hd)); (try (simp (disch := first | omega | (simp <;> omega) | fail) only [push_cast, ↓reduceIte, Nat.reduceEqDiff, Nat.reduceAdd, Nat.reduceMul, Nat.reduceSub, Nat.reduceLT, Int.reduceToNat]))
    · (try (simp only [decide_eq_true_eq, decide_eq_false_iff_not, Bool.not_eq_true', Bool.not_eq_false', Bool.and_eq_true, Bool.or_eq_true, Int.not_lt, Int.not_le] at hd)); (try (simp (disch := first | omega | (simp <;> omega) | fail) only [push_cast, ↓reduceIte, Nat.reduceEqDiff, Nat.reduceAdd, Nat.reduceMul, Nat.reduceSub, Nat.reduceLT, Int.reduceToNat]))
  · (try (simp only [decide_eq_true_eq, decide_eq_false_iff_not, Bool.not_eq_true', Bool.not_eq_false', Bool.and_eq_true, Bool.or_eq_true, Int.not_lt, Int.not_le] at hc)); (try (simp (disch := first | omega | (simp <;> omega) | fail) only [push_cast, ↓reduceIte, Nat.reduceEqDiff, Nat.reduceAdd, Nat.reduceMul, Nat.reduceSub, Nat.reduceLT, Int.reduceToNat]))
    try simp

theorem c_spec_biParse (s : Str) (hl : s.length ≤ 1000000000) : Fn Tryd.prog 35 [.str s] (· = parV s) := by
  refine Fn.froze fun h => ?_
  refine enter (by kernel_rfl) e35 (by kernel_rfl) rfl fun hok => ?_
  simp only [r35, initEnv_1]
  have hfin : ∀ {hh : H} {b : Bool} {t : Bt}, parV s = .tup [eB t, .bool b] → ∀ x, Vw hh h.length x (eB t) → Vw hh h.length (.tup [x, .bool b]) (parV s) := fun h1 x hx => by
    rw [h1]
    exact .tup rfl fun j y t hy ht => by
      rcases j with _ | _ | j
      · simp at hy ht
        subst hy ht
        exact hx
      · simp at hy ht
        subst hy ht
        exact .free free_bool
      · simp at hy
  have hnone : ∀ {hh : H}, Vw hh h.length (.agg [.int .i64 0, .nils]) (eB ⟨0, none⟩) := .free free_bt0
  have hw : ∀ (g : H) cs, h.length < g.length → H.cells (wr g h.length cs) h.length = some cs := fun g cs hg => cells_wr2 hg
  have hpm : (h.length ≤ h.length) = True := by simp
  by_cases hd : s = [45]
  · subst hd
    (try (simp (disch := first | omega | (simp <;> omega) | fail) only [push_cast, ↓reduceIte, Nat.reduceEqDiff, Nat.reduceAdd, Nat.reduceMul, Nat.reduceSub, Nat.reduceLT, Int.reduceToNat, hpm]))
    all_goals (try exact hfin par_dash _ hnone)
  (try (simp (disch := first | omega | (simp <;> omega) | fail) only [push_cast, ↓reduceIte, Nat.reduceEqDiff, Nat.reduceAdd, Nat.reduceMul, Nat.reduceSub, Nat.reduceLT, Int.reduceToNat, hd]))
  refine T_for s.length (fun i e h' => ∃ v B, Pins e [(0, .str s), (2, .adr h.length 0), (3, .bool false), (4, v), (5, .int .i64 i)] ∧ S1 h' 1 v i ((parL s i).map .bool) B ∧ (∀ k ∈ B, h.length + 1 ≤ k) ∧ H.cells h' h.length = some [.int .i64 0, .nils] ∧ par01 (s.take i) = true) ?_ ?_
  · refine ⟨.nils, [], ?_⟩
    (try (simp (disch := first | omega | (simp <;> omega) | fail) only [push_cast, ↓reduceIte, Nat.reduceEqDiff, Nat.reduceAdd, Nat.reduceMul, Nat.reduceSub, Nat.reduceLT, Int.reduceToNat]))
    all_goals (try exact ⟨S1.nil, by simp, by simp [par01]⟩)
    all_goals (try exact ⟨S1.nil, by simp, by rw [cells_h0]; rfl, by simp [par01]⟩)
    all_goals (try exact ⟨S1.nil, by rw [cells_h0]; rfl, by simp [par01]⟩)
    all_goals (try exact ⟨S1.nil, by simp [par01]⟩)
  rintro i e h' hi ⟨v, B, hp, hs, hB, hbox, ha⟩
  refine T_pins hp fun e => ?_
  have hlt := cells_lt hbox
  (try (simp (disch := first | omega | (simp <;> omega) | fail) only [push_cast, ↓reduceIte, Nat.reduceEqDiff, Nat.reduceAdd, Nat.reduceMul, Nat.reduceSub, Nat.reduceLT, Int.reduceToNat]))
  first | refine goC_split (fun hc => ?_) (fun hc => ?_) | refine cnd_split (fun hc => ?_) (fun hc => ?_)
  · (try (simp only [decide_eq_true_eq, decide_eq_false_iff_not, Bool.not_eq_true', Bool.not_eq_false', Bool.and_eq_true, Bool.or_eq_true, Int.not_lt, Int.not_le] at hc)); (try (simp (disch := first | omega | (simp <;> omega) | fail) only [push_cast, ↓reduceIte, Nat.reduceEqDiff, Nat.reduceAdd, Nat.reduceMul, Nat.reduceSub, Nat.reduceLT, Int.reduceToNat]))
    have hi2 : i < s.length := by omega
    have hpt := par01_take hi2
    cases hk : is01 (s.getD i 0)
    · have hk2 := hk
      simp only [is01, Bool.or_eq_false_iff, decide_eq_false_iff_not] at hk2
      obtain ⟨k1, k2⟩ := hk2
      have hp : parOk s = false := by unfold parOk; rw [par01_no hi2 hk]; simp
      (try (simp (disch := first | omega | (simp <;> omega) | fail) only [push_cast, ↓reduceIte, Nat.reduceEqDiff, Nat.reduceAdd, Nat.reduceMul, Nat.reduceSub, Nat.reduceLT, Int.reduceToNat, k1, k2, hpm, hbox, hw]))
      all_goals (try exact hfin (par_no hd hp) _ hnone)
    · have hk2 := hk
      simp only [is01, Bool.or_eq_true, decide_eq_true_eq] at hk2
      have hpt2 : par01 (s.take (i + 1)) = true := by rw [hpt, ha, hk]; rfl
      have hgo : ∀ b : Bool, b = parG s i → ∀ (Q : AV → H → Prop), (∀ v' h'' B', S1 h'' 1 v' (i + 1) ((parL s (i + 1)).map .bool) B' → (∀ k ∈ B', h.length + 1 ≤ k) → H.cells h'' h.length = some [.int .i64 0, .nils] → Q v' h'') → apA (fun c => Nowhere c ∨ h.length ≤ c) (h' ++ [some (.cells [.bool b])]) Q 1 1 (some ([.bool b], 1)) v := by
        rintro b rfl Q hQ
        have hs2 := hs.frame (h' := h' ++ [some (.cells [.bool (parG s i)])]) fun c hc => List.getElem?_append_left (hs.lt c hc)
        refine hs2.app (fun c hc => Or.inr (by have := hB c hc; omega)) rfl (by decide) (by omega) fun v' h'' B' q1 q2 q3 q4 => ?_
        refine hQ v' h'' B' ?_ (fun k hk => ?_) ?_
        · rw [parL_succ]
          exact q1
        · rcases q4 k hk with h5 | h5
          · exact hB k h5
          · simp at h5
            omega
        · rw [cells_eq, q3 h.length (by simp; omega) (fun hc => absurd (hB _ hc) (by omega)), List.getElem?_append_left hlt, ← cells_eq]
          exact hbox
      rcases hk2 with k1 | k1
      · have hb : parG s i = false := by unfold parG; rw [decide_eq_false_iff_not]; omega
        (try (simp (disch := first | omega | (simp <;> omega) | fail) only [push_cast, ↓reduceIte, Nat.reduceEqDiff, Nat.reduceAdd, Nat.reduceMul, Nat.reduceSub, Nat.reduceLT, Int.reduceToNat, k1]))
        refine hgo false hb.symm _ fun v' h'' B' q1 q2 q3 => ?_
        (try (simp (disch := first | omega | (simp <;> omega) | fail) only [push_cast, ↓reduceIte, Nat.reduceEqDiff, Nat.reduceAdd, Nat.reduceMul, Nat.reduceSub, Nat.reduceLT, Int.reduceToNat]))
        all_goals (try exact ⟨_, B', rfl, q1, q2, q3, hpt2⟩)
      · have hb : parG s i = true := by unfold parG; rw [decide_eq_true_eq]; exact k1
        (try (simp (disch := first | omega | (simp <;> omega) | fail) only [push_cast, ↓reduceIte, Nat.reduceEqDiff, Nat.reduceAdd, Nat.reduceMul, Nat.reduceSub, Nat.reduceLT, Int.reduceToNat, k1]))
        refine hgo true hb.symm _ fun v' h'' B' q1 q2 q3 => ?_
        (try (simp (disch := first | omega | (simp <;> omega) | fail) only [push_cast, ↓reduceIte, Nat.reduceEqDiff, Nat.reduceAdd, Nat.reduceMul, Nat.reduceSub, Nat.reduceLT, Int.reduceToNat]))
        all_goals (try exact ⟨_, B', rfl, q1, q2, q3, hpt2⟩)
  · (try (simp only [decide_eq_true_eq, decide_eq_false_iff_not, Bool.not_eq_true', Bool.not_eq_false', Bool.and_eq_true, Bool.or_eq_true, Int.not_lt, Int.not_le] at hc)); (try (simp (disch := first | omega | (simp <;> omega) | fail) only [push_cast, ↓reduceIte, Nat.reduceEqDiff, Nat.reduceAdd, Nat.reduceMul, Nat.reduceSub, Nat.reduceLT, Int.reduceToNat]))
    have hie : i = s.length := by omega
    subst hie
    rw [List.take_length] at ha
    have hll := hs.1
    obtain ⟨o, hvo, hlo⟩ := hs.vwB0 (n0 := 0) (fun _ _ => Nat.zero_le _)
    have hol : (lO o).length = s.length := by rw [hlo, parL_len]
    have hlen : lenA v = some (.int .i64 s.length) := by
      rcases hs.2 with ⟨rfl, h0, _⟩ | ⟨b, rfl, _⟩
      · rw [h0]
        rfl
      · rfl
    (try (simp (disch := first | omega | (simp <;> omega) | fail) only [push_cast, ↓reduceIte, Nat.reduceEqDiff, Nat.reduceAdd, Nat.reduceMul, Nat.reduceSub, Nat.reduceLT, Int.reduceToNat, hlen]))
    refine (c_spec_l1In _ _ _).call ?_
    cases hin : (decide (1 ≤ (s.length : Int)) && decide ((s.length : Int) ≤ 4096))
    · have hp : parOk s = false := by unfold parOk; rw [hin]; rfl
      (try (simp (disch := first | omega | (simp <;> omega) | fail) only [push_cast, ↓reduceIte, Nat.reduceEqDiff, Nat.reduceAdd, Nat.reduceMul, Nat.reduceSub, Nat.reduceLT, Int.reduceToNat, hpm, hbox, hw]))
      all_goals (try exact hfin (par_no hd hp) _ hnone)
    have hin2 : 1 ≤ s.length ∧ s.length ≤ 4096 := by
      simp only [Bool.and_eq_true, decide_eq_true_eq] at hin
      omega
    have hp : parOk s = true := by unfold parOk; rw [hin, ha]; rfl
    have hbo : FnO Tryd.prog 68 [eO o] (· = eB (parB s)) := fun g => (c_spec_biSome o ((s.length + 15) / 16) (by rw [hol]; omega) (by omega) g).mono (fun x g1 hx => by
      obtain ⟨bb, rfl, q1, q2, q3, q4⟩ := hx
      refine ⟨_, ow_B (G := fun c => g.length ≤ c) q1 q4 (by rw [wordsN_len]), ?_⟩
      unfold parB
      rw [hol, hlo]
      refine congrArg eB ?_
      congr 3
      unfold bitN
      refine mkN_congr fun j hj => ?_
      simp [parL, hj]) (fun _ _ h => h.elim)
    (try (simp (disch := first | omega | (simp <;> omega) | fail) only [push_cast, ↓reduceIte, Nat.reduceEqDiff, Nat.reduceAdd, Nat.reduceMul, Nat.reduceSub, Nat.reduceLT, Int.reduceToNat, hpm]))
    refine hbo.goL (.cons hvo .nil) fun x t g1 hR hx how => ?_
    subst hR
    have hb1 := hx.cells hbox
    obtain ⟨w, F, rfl, f1, f2, f3, f4, f5⟩ := ow_bt how
    have hvx : ∀ g2 : H, (∀ c, Seg h'.length g1 c → g2[c]? = g1[c]?) → Vw g2 h.length (.agg [.int .i64 (parB s).size, w]) (eB (parB s)) := fun g2 hg => (how.frame hg).vw1 fun c hc => by have := hc.1; omega
    have hl1 := hx.len
    have hkk : ∀ c cs, Seg h'.length g1 c → (wr g1 h.length cs)[c]? = g1[c]? := fun c cs hc => by
      unfold wr
      rw [List.getElem?_set_ne (by have := hc.1; omega)]
    have hlt1 := cells_lt hb1
    have hw1 : ∀ cs, H.cells (wr g1 h.length cs) h.length = some cs := fun cs => cells_wr2 hlt1
    (try (simp (disch := first | omega | (simp <;> omega) | fail) only [push_cast, ↓reduceIte, Nat.reduceEqDiff, Nat.reduceAdd, Nat.reduceMul, Nat.reduceSub, Nat.reduceLT, Int.reduceToNat, hb1, hpm, hw1, f3, f4]))
    all_goals (try exact hfin (par_yes hd hp) _ (hvx _ fun c hc => hkk c _ hc))

def bitsW : Str := [98, 105, 116, 115]
/-- What loads: the text behind the word. -/
def loadT (s : Str) : Option Str := if openOk s (beforeT s) = true ∧ (beforeT s).take 5 = [98, 105, 116, 115, 32] then some ((beforeT s).drop 5) else none
def loadBt (s : Str) : Bt := match loadT s with | some t => parBt t | none => ⟨0, none⟩
def loadq (s : Str) : Bool := match loadT s with | some t => parq t | none => false
def loadV (s : Str) : AV := .tup [eB (loadBt s), .bool (loadq s)]
theorem load_some {s t : Str} (h : loadT s = some t) : loadV s = parV t := by
  unfold loadV loadBt loadq
  rw [h]
  rfl
theorem load_none {s : Str} (h : loadT s = none) : loadV s = .tup [eB ⟨0, none⟩, .bool false] := by
  unfold loadV loadBt loadq
  rw [h]
theorem par_has {s : Str} (h : (32 : UInt8) ∈ s) : parV s = .tup [eB ⟨0, none⟩, .bool false] := by
  refine par_no ?_ ?_
  · rintro rfl
    simp at h
  · unfold parOk
    have : par01 s = false := by
      unfold par01
      rw [List.all_eq_false]
      exact ⟨32, h, by decide⟩
    rw [this]
    simp
/-- What the other program reads: one word behind the first. -/
theorem load_split {s : Str} : (∃ t, openOk s (beforeT s) = true ∧ splitL 32 (beforeT s) = [bitsW, t] ∧ loadV s = parV t) ∨ (loadV s = .tup [eB ⟨0, none⟩, .bool false] ∧ ¬ (openOk s (beforeT s) = true ∧ (splitL 32 (beforeT s)).getD 0 [] = bitsW ∧ ((splitL 32 (beforeT s)).drop 1).length = 1)) := by
  cases hk : openOk s (beforeT s)
  · refine .inr ⟨load_none (by unfold loadT; rw [hk]; rfl), fun h => by cases h.1⟩
  rcases splitL_hd 32 (beforeT s) with ⟨p, t, h1, h2, h3⟩ | ⟨h1, h2⟩
  · by_cases hp : p = bitsW
    · subst hp
      have hl : loadT s = some t := by
        unfold loadT
        rw [hk, h1]
        simp [bitsW]
      rw [load_some hl]
      rcases splitL_hd 32 t with ⟨p2, t2, g1, g2, g3⟩ | ⟨g1, g2⟩
      · refine .inr ⟨par_has (by rw [g1]; simp), fun h => ?_⟩
        have := h.2.2
        rw [h3, g3] at this
        have h0 := List.length_pos_iff.2 (splitL_ne 32 t2)
        simp at this
        exact splitL_ne 32 t2 this
      · exact .inl ⟨t, rfl, by rw [h3, g2], rfl⟩
    · refine .inr ⟨load_none ?_, fun h => hp ?_⟩
      · unfold loadT
        refine if_neg fun h5 => hp ?_
        obtain ⟨_, h6⟩ := h5
        rw [h1] at h6
        match p, h2, h6 with
        | [], _, h6 => simp at h6
        | [a], h2, h6 => simp at h6
        | [a, b], h2, h6 => simp at h6
        | [a, b, c], h2, h6 => simp at h6
        | [a, b, c, d], h2, h6 =>
          simp at h6
          simp [bitsW, h6]
        | a :: b :: c :: d :: e :: r, h2, h6 =>
          simp at h6
          exact absurd h6.2.2.2.2 (h2 e (by simp))
      · have := h.2.1
        rw [h3] at this
        simpa using this
  · refine .inr ⟨load_none ?_, fun h => ?_⟩
    · unfold loadT
      refine if_neg fun h5 => ?_
      have : (32 : UInt8) ∈ (beforeT s).take 5 := by rw [h5.2]; simp
      exact h1 32 (List.mem_of_mem_take this) rfl
    · have := h.2.2
      rw [h2] at this
      simp at this

theorem c_spec_LoadBits (s : Str) : Fn Tryd.prog 8 [.str s] (· = loadV s) := by
  refine Fn.froze fun h => ?_
  refine enter (by kernel_rfl) e8 (by kernel_rfl) rfl fun hok => ?_
  simp only [r8, initEnv_1]
  (try (simp (disch := first | omega | (simp <;> omega) | fail) only [push_cast, ↓reduceIte, Nat.reduceEqDiff, Nat.reduceAdd, Nat.reduceMul, Nat.reduceSub, Nat.reduceLT, Int.reduceToNat]))
  refine (c_spec_stOpen s).call ?_
  have hnone : ∀ {hh : H} {n0 : Nat}, loadV s = .tup [eB ⟨0, none⟩, .bool false] → Vw hh n0 (.tup [.agg [.int .i64 0, .nils], .bool false]) (loadV s) := fun h1 => by
    rw [h1]
    exact .free (free_tup (free_cons_ free_bt0 (free_cons_ free_bool free_nil_)))
  unfold openV
  cases hk : openOk s (beforeT s)
  · have hl := load_none (s := s) (by unfold loadT; rw [hk]; rfl)
    (try (simp (disch := first | omega | (simp <;> omega) | fail) only [push_cast, ↓reduceIte, Nat.reduceEqDiff, Nat.reduceAdd, Nat.reduceMul, Nat.reduceSub, Nat.reduceLT, Int.reduceToNat]))
    all_goals (try exact hnone hl)
  have h6 := open_len hk
  (try (simp (disch := first | omega | (simp <;> omega) | fail) only [push_cast, ↓reduceIte, Nat.reduceEqDiff, Nat.reduceAdd, Nat.reduceMul, Nat.reduceSub, Nat.reduceLT, Int.reduceToNat]))
  refine (c_spec_trBegins (beforeT s) [98, 105, 116, 115, 32] (by omega) (by simp)).call ?_
  by_cases ht : (beforeT s).take 5 = [98, 105, 116, 115, 32]
  · have hl5 : 5 ≤ (beforeT s).length := by
      have := congrArg List.length ht
      simp at this
      omega
    have hl := load_some (s := s) (t := (beforeT s).drop 5) (by unfold loadT; rw [hk]; simp [ht])
    have hd1 : (decide (([98, 105, 116, 115, 32] : Str).length ≤ (beforeT s).length) && decide ((beforeT s).take ([98, 105, 116, 115, 32] : Str).length = [98, 105, 116, 115, 32])) = true := by simp [hl5, ht]
    rw [hd1]
    (try (simp (disch := first | omega | (simp <;> omega) | fail) only [push_cast, ↓reduceIte, Nat.reduceEqDiff, Nat.reduceAdd, Nat.reduceMul, Nat.reduceSub, Nat.reduceLT, Int.reduceToNat]))
    have htk : List.take ((beforeT s).length - 5) (List.drop 5 (beforeT s)) = (beforeT s).drop 5 := List.take_of_length_le (by simp)
    try rw [htk]
    refine (c_spec_biParse ((beforeT s).drop 5) (by simp; omega)).call ?_
    rw [← hl]
    unfold loadV
    have hfr : Free (.agg [.int .i64 (loadBt s).size, eI (loadBt s).words]) := free_eB (b := loadBt s)
    (try (simp (disch := first | omega | (simp <;> omega) | fail) only [push_cast, ↓reduceIte, Nat.reduceEqDiff, Nat.reduceAdd, Nat.reduceMul, Nat.reduceSub, Nat.reduceLT, Int.reduceToNat]))
    all_goals (try exact .free (free_tup (free_cons_ hfr (free_cons_ free_bool free_nil_))))
  · have hl := load_none (s := s) (by unfold loadT; simp [ht])
    have hd1 : (decide (([98, 105, 116, 115, 32] : Str).length ≤ (beforeT s).length) && decide ((beforeT s).take ([98, 105, 116, 115, 32] : Str).length = [98, 105, 116, 115, 32])) = false := by simp [ht]
    rw [hd1]
    (try (simp (disch := first | omega | (simp <;> omega) | fail) only [push_cast, ↓reduceIte, Nat.reduceEqDiff, Nat.reduceAdd, Nat.reduceMul, Nat.reduceSub, Nat.reduceLT, Int.reduceToNat]))
    all_goals (try exact hnone hl)

theorem ix_spec : ∀ (s : Str) (c : UInt8), (Lib.indexByte s c = -1 ∧ c ∉ s) ∨ ∃ k : Nat, Lib.indexByte s c = k ∧ k < s.length ∧ s.getD k 0 = c ∧ c ∉ s.take k
  | [], c => .inl ⟨rfl, by simp⟩
  | x :: s, c => by
    unfold Lib.indexByte
    by_cases hx : x = c
    · subst hx
      right
      refine ⟨0, ?_, by simp, by simp, by simp⟩
      simp
    · rcases ix_spec s c with ⟨h1, h2⟩ | ⟨k, h1, h2, h3, h4⟩
      · left
        refine ⟨?_, by simp [Ne.symm hx, h2]⟩
        simp [hx, h1]
      · right
        refine ⟨k + 1, ?_, by simp; omega, by simpa using h3, by simp [Ne.symm hx, h4]⟩
        simp [hx, h1]
        try omega
def cutB (s : Str) : Bool := decide ((126 : UInt8) ∈ s)
theorem cut_eq (s : Str) : (Lib.cut s [126]).1 = beforeT s ∧ (Lib.cut s [126]).2.2 = cutB s := by
  unfold Lib.cut cutB
  rw [Lib.index_one]
  rcases ix_spec s 126 with ⟨h1, h2⟩ | ⟨k, h1, h2, h3, h4⟩
  · rw [h1, if_neg (by omega)]
    exact ⟨(before_no h2).symm, by simp [h2]⟩
  · rw [h1, if_pos (by omega)]
    have hs := split_at h2 h3
    refine ⟨?_, ?_⟩
    · have : beforeT s = s.take k := by
        conv => lhs; rw [hs]
        refine before_app fun c hc => ?_
        simp only [bne_iff_ne, ne_eq]
        intro he
        exact h4 (he ▸ hc)
      rw [this]
      simp
    · have : (126 : UInt8) ∈ s := by
        rw [hs]
        simp
      simp [this]

theorem c_strings_Cut (s : Str) (hl : s.length ≤ 4000000000) : Fn Tryd.prog 48 [.str s, .str [126]] (· = .tup [.str (beforeT s), .str (Lib.cut s [126]).2.1, .bool (cutB s)]) :=
  Fn.ofGrow (canEnter_of Tryd.func48 (by kernel_rfl) (by kernel_rfl)) fun S w μ cargs hg ha => by
    obtain ⟨v, u, rfl, hv, hu⟩ := ar_2 ha
    rw [hv.str_, hu.str_]
    obtain ⟨m, hm⟩ := gl_int hg (List.mem_singleton.2 rfl)
    have hb : (beforeT s).length ≤ s.length := (List.takeWhile_prefix _).length_le
    have hb2 : (Lib.cut s [126]).2.1.length ≤ s.length := by
      unfold Lib.cut
      split <;> simp
    obtain ⟨c1, c2⟩ := cut_eq s
    refine ⟨.tuple #[.string ⟨(beforeT s).toArray⟩, .string ⟨(Lib.cut s [126]).2.1.toArray⟩, .bool (cutB s)], fun S w μ => .tup rfl (fun i x hx => ?_), (Tryd.strings_Cut ⟨s.toArray⟩ ⟨#[126]⟩ m w (by
      show s.toArray.size < 4294967281
      simp
      omega) hm).mono ?_⟩
    · rcases i with _ | _ | _ | i
      · simp at hx; subst hx; exact .str _ (by omega)
      · simp at hx; subst hx; exact .str _ (by omega)
      · simp at hx; subst hx; exact .bool _
      · simp at hx
    · rintro e w' ⟨rfl, n, rfl⟩
      refine ⟨?_, n, #[], by simp⟩
      rw [← c1, ← c2]

theorem c_strconv_Itoa (n : Int) (h0 : -9223372036854775808 ≤ n) (h1 : n ≤ 9223372036854775807) : Fn Tryd.prog 61 [.int .i64 n] (· = .str (Lib.itoa n)) :=
  Fn.ofGrow (canEnter_of Tryd.func61 (by kernel_rfl) (by kernel_rfl)) fun S w μ cargs hg ha => by
    obtain ⟨v, rfl, hv⟩ := ar_1 ha
    rw [hv.int_]
    refine ⟨.string ⟨(Lib.itoa n).toArray⟩, fun S w μ => .str _ (by
      have := Lib.itoa_length_le n h0 h1
      omega), Tryd.strconv_Itoa n h0 h1 w (gl_tab hg (List.mem_singleton.2 rfl) (by kernel_rfl))⟩

theorem c_impl_SealText (s : Str) (hl : s.length ≤ 1000000000) : Fn Tryd.prog 49 [.str s] (· = sealV s) := by
  refine Fn.of free_sealV fun h => ?_
  refine enter (by kernel_rfl) e49 (by kernel_rfl) rfl fun hok => ?_
  simp only [r49, initEnv_1]
  (try (simp (disch := first | omega | (simp <;> omega) | fail) only [push_cast, ↓reduceIte, Nat.reduceEqDiff, Nat.reduceAdd, Nat.reduceMul, Nat.reduceSub, Nat.reduceLT, Int.reduceToNat]))
  refine T_for s.length (fun i e h' => Pins e [(0, .str s), (4, .int .i64 (chk s i)), (7, .int .i64 s.length), (8, .int .i64 i)] ∧ h' = h ∧ plain (s.take i) = true) ?_ ?_
  · (try (simp (disch := first | omega | (simp <;> omega) | fail) only [push_cast, ↓reduceIte, Nat.reduceEqDiff, Nat.reduceAdd, Nat.reduceMul, Nat.reduceSub, Nat.reduceLT, Int.reduceToNat]))
    all_goals (try exact ⟨rfl, rfl⟩)
    all_goals (try rfl)
  rintro i e h' hi ⟨hp, rfl, ha⟩
  refine T_pins hp fun e => ?_
  obtain ⟨k0, k1⟩ := chk_bd s i
  (try (simp (disch := first | omega | (simp <;> omega) | fail) only [push_cast, ↓reduceIte, Nat.reduceEqDiff, Nat.reduceAdd, Nat.reduceMul, Nat.reduceSub, Nat.reduceLT, Int.reduceToNat]))
  first | refine goC_split (fun hc => ?_) (fun hc => ?_) | refine cnd_split (fun hc => ?_) (fun hc => ?_)
  · (try (simp only [decide_eq_true_eq, decide_eq_false_iff_not, Bool.not_eq_true', Bool.not_eq_false', Bool.and_eq_true, Bool.or_eq_true, Int.not_lt, Int.not_le] at hc)); (try (simp (disch := first | omega | (simp <;> omega) | fail) only [push_cast, ↓reduceIte, Nat.reduceEqDiff, Nat.reduceAdd, Nat.reduceMul, Nat.reduceSub, Nat.reduceLT, Int.reduceToNat]))
    have hi2 : i < s.length := by omega
    have hpt := plain_take hi2
    have hcb : (s.getD i 0).toNat < 256 := UInt8.toNat_lt _
    have hm := mul_bd (x := (i : Int) + 1) (y := ((s.getD i 0).toNat : Int)) (a := 1000000001) (b := 255) (by omega) (by omega) (by omega) (by omega)
    have hs : chk s (i + 1) = (chk s i + ((i : Int) + 1) * ((s.getD i 0).toNat : Int)) % 65521 := rfl
    cases hk : okCh (s.getD i 0)
    · have hno := plain_no hi2 hk
      unfold sealV plainV
      rw [hno]
      simp only [okCh, Bool.and_eq_false_iff, decide_eq_false_iff_not] at hk
      by_cases h32 : ((s.getD i 0).toNat : Int) < 32
      · (try (simp (disch := first | omega | (simp <;> omega) | fail) only [push_cast, ↓reduceIte, Nat.reduceEqDiff, Nat.reduceAdd, Nat.reduceMul, Nat.reduceSub, Nat.reduceLT, Int.reduceToNat]))
        all_goals (try rfl)
      · have h125 : 125 < ((s.getD i 0).toNat : Int) := by omega
        (try (simp (disch := first | omega | (simp <;> omega) | fail) only [push_cast, ↓reduceIte, Nat.reduceEqDiff, Nat.reduceAdd, Nat.reduceMul, Nat.reduceSub, Nat.reduceLT, Int.reduceToNat]))
        all_goals (try rfl)
    · have hk2 := hk
      simp only [okCh, Bool.and_eq_true, decide_eq_true_eq] at hk2
      obtain ⟨hk3, hk4⟩ := hk2
      have hpt2 : plain (s.take (i + 1)) = true := by rw [hpt, ha, hk]; rfl
      (try (simp (disch := first | omega | (simp <;> omega) | fail) only [push_cast, ↓reduceIte, Nat.reduceEqDiff, Nat.reduceAdd, Nat.reduceMul, Nat.reduceSub, Nat.reduceLT, Int.reduceToNat, hpt2]))
      all_goals (try (rw [hs]))
  · (try (simp only [decide_eq_true_eq, decide_eq_false_iff_not, Bool.not_eq_true', Bool.not_eq_false', Bool.and_eq_true, Bool.or_eq_true, Int.not_lt, Int.not_le] at hc)); (try (simp (disch := first | omega | (simp <;> omega) | fail) only [push_cast, ↓reduceIte, Nat.reduceEqDiff, Nat.reduceAdd, Nat.reduceMul, Nat.reduceSub, Nat.reduceLT, Int.reduceToNat]))
    have hie : i = s.length := by omega
    subst hie
    rw [List.take_length] at ha
    unfold sealV plainV
    rw [ha]
    obtain ⟨n, hn⟩ : ∃ n : Nat, chk s s.length = (n : Int) := ⟨_, (Int.toNat_of_nonneg k0).symm⟩
    have hdl := dec_len (n := n) (by omega)
    have hst : sealT s = s ++ 126 :: Lib.decDigits n := by
      unfold sealT
      rw [hn, Int.toNat_natCast]
    have hit : Lib.itoa (n : Int) = Lib.decDigits n := by rw [itoa_nn (by omega), Int.toNat_natCast]
    rw [hn]
    by_cases h6 : 6000 < s.length
    · (try (simp (disch := first | omega | (simp <;> omega) | fail) only [push_cast, ↓reduceIte, Nat.reduceEqDiff, Nat.reduceAdd, Nat.reduceMul, Nat.reduceSub, Nat.reduceLT, Int.reduceToNat]))
      all_goals (try rfl)
    · (try (simp (disch := first | omega | (simp <;> omega) | fail) only [push_cast, ↓reduceIte, Nat.reduceEqDiff, Nat.reduceAdd, Nat.reduceMul, Nat.reduceSub, Nat.reduceLT, Int.reduceToNat]))
      refine (c_strconv_Itoa n (by omega) (by omega)).call ?_
      rw [hit]
      (try (simp (disch := first | omega | (simp <;> omega) | fail) only [push_cast, ↓reduceIte, Nat.reduceEqDiff, Nat.reduceAdd, Nat.reduceMul, Nat.reduceSub, Nat.reduceLT, Int.reduceToNat]))
      rw [hst]
      all_goals (try simp)

theorem c_impl_OpenSeal (s : Str) (hl : s.length ≤ 1000000000) : Fn Tryd.prog 18 [.str s] (· = openV s) := by
  refine Fn.of free_openV fun h => ?_
  refine enter (by kernel_rfl) e18 (by kernel_rfl) rfl fun hok => ?_
  simp only [r18, initEnv_1]
  have hb : (beforeT s).length ≤ s.length := (List.takeWhile_prefix _).length_le
  (try (simp (disch := first | omega | (simp <;> omega) | fail) only [push_cast, ↓reduceIte, Nat.reduceEqDiff, Nat.reduceAdd, Nat.reduceMul, Nat.reduceSub, Nat.reduceLT, Int.reduceToNat]))
  refine (c_strings_Cut s (by omega)).call ?_
  (try (simp (disch := first | omega | (simp <;> omega) | fail) only [push_cast, ↓reduceIte, Nat.reduceEqDiff, Nat.reduceAdd, Nat.reduceMul, Nat.reduceSub, Nat.reduceLT, Int.reduceToNat]))
  refine (c_impl_SealText (beforeT s) (by omega)).call ?_
  unfold sealV openV openOk
  cases h1 : cutB s
  · have hno : (126 : UInt8) ∉ s := by simpa [cutB] using h1
    have hA := open_none hno
    unfold openOk at hA
    rw [hA]
    cases h2 : plainV (beforeT s)
    · (try (simp (disch := first | omega | (simp <;> omega) | fail) only [push_cast, ↓reduceIte, Nat.reduceEqDiff, Nat.reduceAdd, Nat.reduceMul, Nat.reduceSub, Nat.reduceLT, Int.reduceToNat]))
      all_goals (try rfl)
    · (try (simp (disch := first | omega | (simp <;> omega) | fail) only [push_cast, ↓reduceIte, Nat.reduceEqDiff, Nat.reduceAdd, Nat.reduceMul, Nat.reduceSub, Nat.reduceLT, Int.reduceToNat]))
      all_goals (try rfl)
  · cases h2 : plainV (beforeT s)
    · (try (simp (disch := first | omega | (simp <;> omega) | fail) only [push_cast, ↓reduceIte, Nat.reduceEqDiff, Nat.reduceAdd, Nat.reduceMul, Nat.reduceSub, Nat.reduceLT, Int.reduceToNat]))
      all_goals (try rfl)
    · by_cases h8 : sealT (beforeT s) = s
      · (try (simp (disch := first | omega | (simp <;> omega) | fail) only [push_cast, ↓reduceIte, Nat.reduceEqDiff, Nat.reduceAdd, Nat.reduceMul, Nat.reduceSub, Nat.reduceLT, Int.reduceToNat, h8]))
        all_goals (try rfl)
      · (try (simp (disch := first | omega | (simp <;> omega) | fail) only [push_cast, ↓reduceIte, Nat.reduceEqDiff, Nat.reduceAdd, Nat.reduceMul, Nat.reduceSub, Nat.reduceLT, Int.reduceToNat, h8]))
        all_goals (try rfl)

theorem c_strings_Split (s : Str) (hs : s.length ≤ 4000000000) : Fn Tryd.prog 69 [.str s, .str [32]] (· = eS (some (splitL 32 s))) := by
  have hlen := splitL_nlen 32 s
  have hcl : ((splitL 32 s).map AV.str).length = (splitL 32 s).length := by simp
  have hmx : (splitL 32 s).length ≤ maxLen := by unfold maxLen; omega
  have hf : Fn Tryd.prog 69 [.str s, .str [32]] (· = .ro 1 ((splitL 32 s).map AV.str) ((splitL 32 s).map AV.str).length) := Fn.ofAlloc (canEnter_of Tryd.func69 (by kernel_rfl) (by kernel_rfl)) (one_map fun _ => rfl) (free_map_ fun _ => free_str) (by rw [hcl]; exact hmx) fun S w μ cargs hg ha => by
    obtain ⟨v, u, rfl, hv, hu⟩ := ar_2 ha
    rw [hv.str_, hu.str_]
    obtain ⟨m, hm⟩ := gl_int hg (List.mem_singleton.2 rfl)
    have hc := Tryd.strings_Split ⟨s.toArray⟩ ⟨#[32]⟩ m w (by
      show s.toArray.size < 4294967281
      simp
      omega) hm (by decide)
    rw [split_vals] at hc
    have hcnt : Lib.countB ⟨s.toArray⟩ ⟨#[32]⟩ + 1 = ((splitL 32 s).map AV.str).length := by
      rw [hcl, splitL_count]
    rw [hcnt] at hc
    refine ⟨_, _, ?_, fun S w μ i x hx => ?_, hc⟩
    · simp
    · obtain ⟨p, hp, rfl⟩ : ∃ p, (splitL 32 s)[i]? = some p ∧ AV.str p = x := by simpa using hx
      have hl := splitL_len 32 s p (List.mem_of_getElem? hp)
      rw [Array.getD_eq_getD_getElem?]
      simp [hp]
      exact .str _ (by omega)
  rw [hcl] at hf
  exact hf

theorem c_impl_opened (s word : Str) (hl : s.length ≤ 1000000000) : Fn Tryd.prog 36 [.str s, .str word] (· = openedV s word) := by
  refine Fn.of free_openedV fun h => ?_
  refine enter (by kernel_rfl) e36 (by kernel_rfl) rfl fun hok => ?_
  simp only [r36, initEnv_2]
  (try (simp (disch := first | omega | (simp <;> omega) | fail) only [push_cast, ↓reduceIte, Nat.reduceEqDiff, Nat.reduceAdd, Nat.reduceMul, Nat.reduceSub, Nat.reduceLT, Int.reduceToNat]))
  refine (c_impl_OpenSeal s hl).call ?_
  unfold openV openedV
  cases hk : openOk s (beforeT s)
  · (try (simp (disch := first | omega | (simp <;> omega) | fail) only [push_cast, ↓reduceIte, Nat.reduceEqDiff, Nat.reduceAdd, Nat.reduceMul, Nat.reduceSub, Nat.reduceLT, Int.reduceToNat]))
    refine (c_strings_Split [] (by simp)).call ?_
    (try (simp (disch := first | omega | (simp <;> omega) | fail) only [push_cast, ↓reduceIte, Nat.reduceEqDiff, Nat.reduceAdd, Nat.reduceMul, Nat.reduceSub, Nat.reduceLT, Int.reduceToNat]))
    all_goals (try rfl)
  · have h6 := open_len hk
    have hnl := splitL_nlen 32 (beforeT s)
    have hne := splitL_ne 32 (beforeT s)
    have hpos := List.length_pos_iff.2 hne
    (try (simp (disch := first | omega | (simp <;> omega) | fail) only [push_cast, ↓reduceIte, Nat.reduceEqDiff, Nat.reduceAdd, Nat.reduceMul, Nat.reduceSub, Nat.reduceLT, Int.reduceToNat]))
    refine (c_strings_Split (beforeT s) (by omega)).call ?_
    generalize splitL 32 (beforeT s) = L at *
    have hlS : lS (some L) = L := rfl
    have hpos2 : 0 < (lS (some L)).length := hpos
    by_cases hw : L.getD 0 [] = word
    · (try (simp (disch := first | omega | (simp <;> omega) | fail) only [push_cast, ↓reduceIte, Nat.reduceEqDiff, Nat.reduceAdd, Nat.reduceMul, Nat.reduceSub, Nat.reduceLT, Int.reduceToNat, hlS, hw]))
      all_goals (try rfl)
    · (try (simp (disch := first | omega | (simp <;> omega) | fail) only [push_cast, ↓reduceIte, Nat.reduceEqDiff, Nat.reduceAdd, Nat.reduceMul, Nat.reduceSub, Nat.reduceLT, Int.reduceToNat, hlS, hw]))
      all_goals (try rfl)

theorem drew_two {w : World} {o1 o2 : Obj} {q : Nat} : ((w.alloc o1).alloc o2).drewN q = Sort.grow (w.drewN q) #[o1, o2] := by
  cases w
  simp only [Sort.grow, World.alloc, World.drewN]
  congr 1
  try simp only [Array.push_eq_append, Array.append_assoc]
  try rfl
theorem c_strings_Trim (s : Str) (h0 : 1 ≤ s.length) (hs : s.length ≤ 4000000000) : Fn Tryd.prog 71 [.str s, .str [48, 49]] (· = .str (Lib.trimS s [48, 49])) :=
  Fn.ofGrow (canEnter_of Tryd.func71 (by kernel_rfl) (by kernel_rfl)) fun S w μ cargs hg ha => by
    obtain ⟨v, u, rfl, hv, hu⟩ := ar_2 ha
    rw [hv.str_, hu.str_]
    have hb : (Lib.trimS s [48, 49]).length ≤ s.length := by
      unfold Lib.trimS Lib.trimLeftS Lib.trimRightS
      have h1 := (List.dropWhile_sublist (fun x => [48, 49].contains x) (l := s.reverse)).length_le
      have h2 := (List.dropWhile_sublist (fun x => [48, 49].contains x) (l := (s.reverse.dropWhile fun x => [48, 49].contains x).reverse)).length_le
      simp only [List.length_reverse] at h1 h2
      omega
    refine ⟨.string ⟨(Lib.trimS s [48, 49]).toArray⟩, fun S w μ => .str _ (by omega), (Tryd.strings_Trim ⟨s.toArray⟩ ⟨#[48, 49]⟩ w (by decide) (by show 0 < s.toArray.size; simp; omega) (by show s.toArray.size ≤ _; simp; omega) (by decide) (fun j b hb => by
      have hb : ([48, 49] : List UInt8)[j]? = some b := hb
      rcases j with _ | _ | j
      · injection hb with hb
        subst hb
        decide
      · injection hb with hb
        subst hb
        decide
      · cases hb)).mono ?_⟩
    rintro e w' ⟨rfl, q, o1, o2, rfl⟩
    exact ⟨rfl, q, #[o1, o2], drew_two⟩

theorem c_impl_ParseBits_1 (s : Str) (i : Nat) (hi : i < s.length) : Fn Tryd.prog 73 [.int .i64 i, .rad [.str s] 0] (· = .bool (parG s i)) := by
  refine Fn.of free_bool fun h => ?_
  refine enter (by kernel_rfl) e73 (by kernel_rfl) rfl fun hok => ?_
  simp only [r73, initEnv_2]
  (try (simp (disch := first | omega | (simp <;> omega) | fail) only [push_cast, ↓reduceIte, Nat.reduceEqDiff, Nat.reduceAdd, Nat.reduceMul, Nat.reduceSub, Nat.reduceLT, Int.reduceToNat]))
  (first | refine goC_split (fun hc => ?_) (fun hc => ?_) | refine cnd_split (fun hc => ?_) (fun hc => ?_)) <;> ((try (simp (disch := first | omega | (simp <;> omega) | fail) only [push_cast, ↓reduceIte, Nat.reduceEqDiff, Nat.reduceAdd, Nat.reduceMul, Nat.reduceSub, Nat.reduceLT, Int.reduceToNat]))) <;> (try rw [hc])
  all_goals (unfold parG; exact hc.symm)

theorem c_impl_ParseBits_o (s : Str) (hl : s.length ≤ 1000000000) : FnO Tryd.prog 37 [.str s] (· = parV s) := by
  intro h
  refine enter (by kernel_rfl) e37 (by kernel_rfl) rfl fun hok => ?_
  simp only [r37, initEnv_1]
  have hno : ∀ {hh : H}, s ≠ [45] → parOk s = false → ∃ t, Ow hh [.tup [.agg [.int .i64 0, .nils], .bool false]] [t] (fun c => h.length ≤ c) ∧ t = parV s := fun h1 h2 => ⟨_, (Ow.two (F := fun _ => False) (F' := fun _ => False) (Ow.aggOf (.atom rfl (.atom rfl .nil))) (.atom rfl .nil) (fun c (hc : False) => hc.elim) (fun _ h => h.elim)).tupOf, (par_no h1 h2).symm⟩
  by_cases hd : s = [45]
  · subst hd
    (try (simp (disch := first | omega | (simp <;> omega) | fail) only [push_cast, ↓reduceIte, Nat.reduceEqDiff, Nat.reduceAdd, Nat.reduceMul, Nat.reduceSub, Nat.reduceLT, Int.reduceToNat]))
    all_goals (try exact ⟨_, (Ow.two (F := fun _ => False) (F' := fun _ => False) (Ow.aggOf (.atom rfl (.atom rfl .nil))) (.atom rfl .nil) (fun c (hc : False) => hc.elim) (fun _ h => h.elim)).tupOf, par_dash.symm⟩)
  (try (simp (disch := first | omega | (simp <;> omega) | fail) only [push_cast, ↓reduceIte, Nat.reduceEqDiff, Nat.reduceAdd, Nat.reduceMul, Nat.reduceSub, Nat.reduceLT, Int.reduceToNat, hd]))
  refine (c_impl_in _ _ _).call ?_
  cases hin : (decide (1 ≤ (s.length : Int)) && decide ((s.length : Int) ≤ 4096))
  · have hp : parOk s = false := by unfold parOk; rw [hin]; rfl
    (try (simp (disch := first | omega | (simp <;> omega) | fail) only [push_cast, ↓reduceIte, Nat.reduceEqDiff, Nat.reduceAdd, Nat.reduceMul, Nat.reduceSub, Nat.reduceLT, Int.reduceToNat, hd]))
    all_goals (try exact hno hd hp)
  have hin2 : 1 ≤ s.length ∧ s.length ≤ 4096 := by
    simp only [Bool.and_eq_true, decide_eq_true_eq] at hin
    omega
  (try (simp (disch := first | omega | (simp <;> omega) | fail) only [push_cast, ↓reduceIte, Nat.reduceEqDiff, Nat.reduceAdd, Nat.reduceMul, Nat.reduceSub, Nat.reduceLT, Int.reduceToNat, hd]))
  refine (c_strings_Trim s (by omega) (by omega)).call ?_
  have htr := par01_trim (s := s)
  by_cases ht : Lib.trimS s [48, 49] = []
  · have hp : parOk s = true := by unfold parOk; rw [hin, htr.1 ht]; rfl
    have hy := par_yes hd hp
    (try (simp (disch := first | omega | (simp <;> omega) | fail) only [push_cast, ↓reduceIte, Nat.reduceEqDiff, Nat.reduceAdd, Nat.reduceMul, Nat.reduceSub, Nat.reduceLT, Int.reduceToNat, ht]))
    refine (c_impl_madeBits s.length ((s.length + 15) / 16) 73 h.length [.str s] (parG s) (by omega) (by omega) (fun j hj => c_impl_ParseBits_1 s j hj) (free_cons_ free_str free_nil_) _ (by rw [cells_h0]; rfl)).mono (fun x h1 hx => ?_) (fun _ _ h => h.elim)
    obtain ⟨bb, rfl, q1, q2, q3, q4⟩ := hx
    simp only [List.length_append, List.length_cons, List.length_nil] at q1 q2
    have hb1 : H.cells h1 (h.length + 1) = some [.int .i64 0, .nils] := cells_keep (q3 _ (by simp)) (by rw [cells_hk]; rfl)
    have hpm : (h.length ≤ h.length + 1) = True := by simp
    have hw : ∀ cs, H.cells (wr h1 (h.length + 1) cs) (h.length + 1) = some cs := fun cs => cells_wr2 (cells_lt hb1)
    have hbb : ∀ cs, H.cells (wr h1 (h.length + 1) cs) bb = some ((wordsN (mkN s.length (parG s)) ((s.length + 15) / 16)).map (.int .i64)) := fun cs => cells_keep (by unfold wr; rw [List.getElem?_set_ne (by omega)]) q4
    (try (simp (disch := first | omega | (simp <;> omega) | fail) only [push_cast, ↓reduceIte, Nat.reduceEqDiff, Nat.reduceAdd, Nat.reduceMul, Nat.reduceSub, Nat.reduceLT, Int.reduceToNat, hb1, hpm, hw]))
    all_goals (try exact ⟨_, (Ow.two (F' := fun _ => False) (ow_B (G := fun c => h.length ≤ c) (show h.length ≤ bb by omega) (hbb _) (by rw [wordsN_len])) (.atom rfl .nil) (fun c hc => hc) (fun _ h => h.elim)).tupOf, hy.symm⟩)
  · have hp : parOk s = false := by
      unfold parOk
      cases h5 : par01 s with
      | false => simp
      | true => exact absurd (htr.2 h5) ht
    (try (simp (disch := first | omega | (simp <;> omega) | fail) only [push_cast, ↓reduceIte, Nat.reduceEqDiff, Nat.reduceAdd, Nat.reduceMul, Nat.reduceSub, Nat.reduceLT, Int.reduceToNat, ht]))
    all_goals (try exact hno hd hp)

theorem c_impl_LoadBits_o (s : Str) (hl : s.length ≤ 1000000000) : FnO Tryd.prog 9 [.str s] (· = loadV s) := by
  intro h
  refine enter (by kernel_rfl) e9 (by kernel_rfl) rfl fun hok => ?_
  simp only [r9, initEnv_1]
  (try (simp (disch := first | omega | (simp <;> omega) | fail) only [push_cast, ↓reduceIte, Nat.reduceEqDiff, Nat.reduceAdd, Nat.reduceMul, Nat.reduceSub, Nat.reduceLT, Int.reduceToNat]))
  refine (c_impl_opened s [98, 105, 116, 115] hl).call ?_
  have hnone : ∀ {hh : H}, loadV s = .tup [eB ⟨0, none⟩, .bool false] → ∃ t, Ow hh [.tup [.agg [.int .i64 0, .nils], .bool false]] [t] (fun c => h.length ≤ c) ∧ t = loadV s := fun h1 => ⟨_, (Ow.two (F := fun _ => False) (F' := fun _ => False) (Ow.aggOf (.atom rfl (.atom rfl .nil))) (.atom rfl .nil) (fun c (hc : False) => hc.elim) (fun _ h => h.elim)).tupOf, h1.symm⟩
  rcases load_split (s := s) with ⟨t, h1, h2, h3⟩ | ⟨h1, h2⟩
  · have hv : openedV s [98, 105, 116, 115] = .tup [eS (some [t]), .bool true] := by
      unfold openedV
      rw [h1, h2]
      rfl
    have htl : t.length ≤ 6000 := by
      have := splitL_len 32 (beforeT s) t (by rw [h2]; simp)
      have := open_len h1
      omega
    rw [hv]
    (try (simp (disch := first | omega | (simp <;> omega) | fail) only [push_cast, ↓reduceIte, Nat.reduceEqDiff, Nat.reduceAdd, Nat.reduceMul, Nat.reduceSub, Nat.reduceLT, Int.reduceToNat]))
    refine (c_impl_ParseBits_o t (by omega)).go fun x u g1 hR hx how => ?_
    subst hR
    rw [h3]
    obtain ⟨y, rfl, how2⟩ := ow_tup2 how
    clear how
    obtain ⟨w, F, rfl, f1, f2, f3, f4, f5⟩ := ow_bt how2
    have hl1 := hx.len
    simp only [List.length_append, List.length_cons, List.length_nil] at hl1 how2
    have hb1 : H.cells g1 h.length = some [.int .i64 0, .nils] := hx.cells (by rw [cells_h0]; rfl)
    have hpm : (h.length ≤ h.length) = True := by simp
    have hw : ∀ cs, H.cells (wr g1 h.length cs) h.length = some cs := fun cs => cells_wr2 (cells_lt hb1)
    have how3 : ∀ cs, Ow (wr g1 h.length cs) [.agg [.int .i64 (parBt t).size, w]] [eB (parBt t)] (fun c => h.length ≤ c) := fun cs => (how2.frame (h' := wr g1 h.length cs) fun c hc => by
      have := hc.1
      unfold wr
      rw [List.getElem?_set_ne (by omega)]).mono fun c hc => by have := hc.1; omega
    (try (simp (disch := first | omega | (simp <;> omega) | fail) only [push_cast, ↓reduceIte, Nat.reduceEqDiff, Nat.reduceAdd, Nat.reduceMul, Nat.reduceSub, Nat.reduceLT, Int.reduceToNat, hb1, hpm, hw, f3, f4]))
    all_goals (try exact ⟨_, (Ow.two (F' := fun _ => False) (how3 _) (.atom rfl .nil) (fun c hc => hc) (fun _ h => h.elim)).tupOf, rfl⟩)
  · unfold openedV
    by_cases hw : openOk s (beforeT s) = true ∧ (splitL 32 (beforeT s)).getD 0 [] = [98, 105, 116, 115]
    · rw [if_pos hw]
      have hn : ¬ ((splitL 32 (beforeT s)).drop 1).length = 1 := fun h5 => h2 ⟨hw.1, hw.2, h5⟩
      have hnl := splitL_nlen 32 (beforeT s)
      have := open_len hw.1
      generalize (splitL 32 (beforeT s)).drop 1 = L at *
      have hn2 : ¬ ((lS (some L)).length : Int) = 1 := fun h5 => hn (by have : (lS (some L)).length = L.length := rfl; omega)
      (try (simp (disch := first | omega | (simp <;> omega) | fail) only [push_cast, ↓reduceIte, Nat.reduceEqDiff, Nat.reduceAdd, Nat.reduceMul, Nat.reduceSub, Nat.reduceLT, Int.reduceToNat, hn2]))
      all_goals (try exact hnone h1)
    · rw [if_neg hw]
      (try (simp (disch := first | omega | (simp <;> omega) | fail) only [push_cast, ↓reduceIte, Nat.reduceEqDiff, Nat.reduceAdd, Nat.reduceMul, Nat.reduceSub, Nat.reduceLT, Int.reduceToNat]))
      all_goals (try exact hnone h1)

--eng lenA_eBS iaddr_eBS ld_B get_B0 get_B1 cellsOf_eBS one_eBS
def eBS : Option (List Bt) → AV
  | none => .nils
  | some l => .ro 2 (l.flatMap cB) l.length
def lB : Option (List Bt) → List Bt
  | none => []
  | some l => l
theorem lenA_eBS {l : Option (List Bt)} : lenA (eBS l) = some (.int .i64 (lB l).length) := by cases l <;> rfl
theorem iaddr_eBS {l : Option (List Bt)} {k : IntKind} {n : Int} (h1 : 0 ≤ n) (h2 : n < (lB l).length) : iaddrA 2 (eBS l) (.int k n) = some (.rad ((lB l).flatMap cB) (n.toNat * 2)) := by
  cases l with
  | none => simp [lB] at h2; omega
  | some l => exact iaddrA_ro h1 h2
theorem ld_B {l : List Bt} {i : Nat} (hi : i < l.length) : ld true 2 (l.flatMap cB) (i * 2) = some (.agg (cB (l.getD i default))) := ld_row cB_len default hi
theorem get_B0 {l : List Bt} {i : Nat} (hi : i < l.length) : (l.flatMap cB)[i * 2]? = some (.int .i64 (l.getD i default).size) := flatMap_get cB_len default (k := 0) hi (by omega)
theorem get_B1 {l : List Bt} {i : Nat} (hi : i < l.length) : (l.flatMap cB)[i * 2 + 1]? = some (eI (l.getD i default).words) := flatMap_get cB_len default (k := 1) hi (by omega)
theorem one_eBS {l : Option (List Bt)} : one (eBS l) = true := by cases l <;> rfl
theorem cellsOf_eBS {l : Option (List Bt)} : cellsOf (eBS l) = [eBS l] := by cases l <;> rfl
theorem free_eBS {l : Option (List Bt)} : Free (eBS l) := by
  cases l with
  | none => exact free_nils
  | some l => exact free_ro (fun c hc => by obtain ⟨p, _, hp⟩ := List.mem_flatMap.1 hc; exact free_cB c hp)
theorem ok_eBS {l : Option (List Bt)} (h : OkV (eBS l)) : (lB l).length ≤ 9223372036854775807 := by
  cases l with
  | none => simp [lB]
  | some l => exact h.ro.1
def wBS (a : Option (List Bt)) : Nat := (lB a).length + ((lB a).map fun p => (lI p.words).length).sum
def cBc (p : Bt) : List AV := cB (cpB p)
theorem cBc_len (p : Bt) : (cBc p).length = 2 := rfl

attribute [push_cast] lenA_eBS iaddr_eBS ld_B get_B0 get_B1 cellsOf_eBS one_eBS
def mkB (k : Int) : List Bt → List Bt
  | [] => []
  | b :: l => ⟨k, mkI (k + 1) b.words⟩ :: mkB (k + 1 + (lI b.words).length) l
def offB (l : List Bt) : Nat := (l.map fun b => 1 + (lI b.words).length).sum
theorem mkB_len : ∀ {k : Int} {l : List Bt}, (mkB k l).length = l.length
  | _, [] => rfl
  | _, b :: l => by simp [mkB, mkB_len]
theorem mkB_app : ∀ {k : Int} {l : List Bt} {b : Bt}, mkB k (l ++ [b]) = mkB k l ++ [⟨k + offB l, mkI (k + offB l + 1) b.words⟩]
  | k, [], b => by simp [mkB, offB]
  | k, a :: l, b => by
    rw [List.cons_append, mkB, mkB_app, mkB, List.cons_append]
    have e : k + 1 + ((lI a.words).length : Int) + (offB l : Int) = k + (offB (a :: l) : Int) := by
      simp only [offB, List.map_cons, List.sum_cons]
      omega
    rw [e]
theorem offB_take {l : List Bt} {i : Nat} (hi : i < l.length) : offB (l.take (i + 1)) = offB (l.take i) + (1 + (lI (l.getD i default).words).length) := by
  unfold offB
  rw [List.map_take, List.map_take, sum_take_succ (by simpa using hi)]
  simp [hi]
theorem offB_le (l : List Bt) (i : Nat) : offB (l.take i) ≤ offB l := by
  unfold offB
  rw [List.map_take]
  exact sum_take_le _ i
def mkU (k : Int) (l : List Bt) (i : Nat) : List Bt := mkB k (l.take i) ++ l.drop i
theorem mkU_len {k : Int} {l : List Bt} {i : Nat} : (mkU k l i).length = l.length := by
  simp [mkU, mkB_len]
  omega
theorem mkU_get {k : Int} {l : List Bt} {i : Nat} (hi : i < l.length) : (mkU k l i).getD i default = l.getD i default := by
  unfold mkU
  have h1 : (mkB k (l.take i)).length = i := by
    rw [mkB_len, List.length_take]
    omega
  rw [List.getD_eq_getElem?_getD, List.getElem?_append_right (by omega), h1, Nat.sub_self, List.getElem?_drop]
  simp
theorem mkU_succ {k : Int} {l : List Bt} {i : Nat} (hi : i < l.length) : mkU k l (i + 1) = (mkU k l i).set i ⟨k + offB (l.take i), mkI (k + offB (l.take i) + 1) (l.getD i default).words⟩ := by
  have h1 : (mkB k (l.take i)).length = i := by
    rw [mkB_len, List.length_take]
    omega
  have ht : l.take (i + 1) = l.take i ++ [l.getD i default] := by
    rw [List.take_add_one]
    simp [hi]
  have hd : l.drop i = l.getD i default :: l.drop (i + 1) := by
    rw [List.drop_eq_getElem_cons hi]
    simp [hi]
  unfold mkU
  rw [ht, mkB_app, hd, List.set_append_right _ _ (by omega), h1, Nat.sub_self]
  simp
theorem flatB_set : ∀ {L : List Bt} {i : Nat} {z : Int} {w : Option (List Int)}, i < L.length → ((L.flatMap cB).set (i * 2) (.int .i64 z)).set (i * 2 + 1) (eI w) = (L.set i ⟨z, w⟩).flatMap cB
  | [], i, z, w, hi => by simp at hi
  | p :: L, 0, z, w, _ => by simp [cB]
  | p :: L, i + 1, z, w, hi => by
    have ih := flatB_set (L := L) (i := i) (z := z) (w := w) (by simpa using hi)
    have e2 : (i + 1) * 2 = 2 + i * 2 := by omega
    have e3 : 2 + i * 2 + 1 = 2 + (i * 2 + 1) := by omega
    rw [List.flatMap_cons, e2, e3, List.set_append_right _ _ (by rw [cB_len]; omega), List.set_append_right _ _ (by rw [cB_len]; omega), cB_len, Nat.add_sub_cancel_left, Nat.add_sub_cancel_left, ih]
    simp
theorem flatB_one {L : List Bt} : (L.flatMap cB).all one = true := by
  rw [List.all_eq_true]
  intro c hc
  obtain ⟨p, _, hp⟩ := List.mem_flatMap.1 hc
  simp only [cB, List.mem_cons, List.not_mem_nil, or_false] at hp
  rcases hp with rfl | rfl
  · rfl
  · exact one_eI

theorem loadBt_len {s : Str} : (lI (loadBt s).words).length ≤ 1000 := by
  have h0 : (lI (⟨0, none⟩ : Bt).words).length ≤ 1000 := by simp [lI]
  unfold loadBt
  cases loadT s with
  | none => exact h0
  | some t =>
    show (lI (parBt t).words).length ≤ 1000
    unfold parBt
    split
    · exact h0
    · split
      · rename_i hp
        simp only [parOk, Bool.and_eq_true, decide_eq_true_eq] at hp
        show (wordsN _ _).length ≤ 1000
        rw [wordsN_len]
        omega
      · exact h0
def sh_FnExactLoadBits : List Sh := [.str]
theorem law_FnExactLoadBits (ys : List AV) (hy : ArgsFit sh_FnExactLoadBits ys) : Call Tryd.prog 3 ys [] Nowhere (fun x _ => x = .bool true) := by
  obtain ⟨x1, y1, rfl, h1, hy⟩ := argsFit_cons hy
  obtain rfl := argsFit_nil hy
  obtain ⟨s, rfl, hsl⟩ := fit_str h1
  refine (?_ : ∀ h, Call Tryd.prog 3 [.str s] h Nowhere (fun x _ => x = .bool true)) []
  intro h
  refine enter (by kernel_rfl) e3 (by kernel_rfl) rfl fun hok => ?_
  simp only [r3, initEnv_1]
  (try (simp (disch := first | omega | (simp <;> omega) | fail) only [push_cast, ↓reduceIte, Nat.reduceEqDiff, Nat.reduceAdd, Nat.reduceMul, Nat.reduceSub, Nat.reduceLT, Int.reduceToNat]))
  first | refine goC_split (fun hc => ?_) (fun hc => ?_) | refine cnd_split (fun hc => ?_) (fun hc => ?_)
  · (try (simp only [decide_eq_true_eq, decide_eq_false_iff_not, Bool.not_eq_true', Bool.not_eq_false', Bool.and_eq_true, Bool.or_eq_true, Int.not_lt, Int.not_le] at hc)); (try (simp (disch := first | omega | (simp <;> omega) | fail) only [push_cast, ↓reduceIte, Nat.reduceEqDiff, Nat.reduceAdd, Nat.reduceMul, Nat.reduceSub, Nat.reduceLT, Int.reduceToNat]))
  (try (simp only [decide_eq_true_eq, decide_eq_false_iff_not, Bool.not_eq_true', Bool.not_eq_false', Bool.and_eq_true, Bool.or_eq_true, Int.not_lt, Int.not_le] at hc)); (try (simp (disch := first | omega | (simp <;> omega) | fail) only [push_cast, ↓reduceIte, Nat.reduceEqDiff, Nat.reduceAdd, Nat.reduceMul, Nat.reduceSub, Nat.reduceLT, Int.reduceToNat]))
  refine (c_spec_LoadBits s).call ?_
  have himpl := c_impl_LoadBits_o s (by omega)
  have hal := loadBt_len (s := s)
  unfold loadV at himpl ⊢
  generalize loadBt s = a at *
  generalize loadq s = q at *
  have heqB : Fn Tryd.prog 10 [eB a, eB a] (· = .bool true) := by
    have := c_laws_eqBits a a
    simpa using this
  have hea : eB a = .agg [.int .i64 a.size, eI a.words] := rfl
  (try (simp (disch := first | omega | (simp <;> omega) | fail) only [push_cast, ↓reduceIte, Nat.reduceEqDiff, Nat.reduceAdd, Nat.reduceMul, Nat.reduceSub, Nat.reduceLT, Int.reduceToNat]))
  refine himpl.go fun y t h1 hR hx1 how => ?_
  subst hR
  obtain ⟨g0, rfl, how2⟩ := ow_tup2 how
  clear how
  obtain ⟨w, F, rfl, f1, f2, f3, f4, f5⟩ := ow_bt how2
  clear f1 f2 f5 F
  have hl1 := hx1.len
  simp only [List.length_append, List.length_cons, List.length_nil] at hl1 how2
  have hc1 : ∀ l, H.cells (h1 ++ l) h.length = some [.int .i64 a.size, eI a.words] := fun l => cells_app (hx1.cells (by rw [cells_h0]; rfl))
  have how4 : Ow (h1 ++ [some (.cells [.int .i64 a.size, w])]) [.agg [.int .i64 a.size, w]] [eB a] (Seg (h.length + 1) h1) := Ext.refl.app.ow how2
  clear how2
  (try (simp (disch := first | omega | (simp <;> omega) | fail) only [push_cast, ↓reduceIte, Nat.reduceEqDiff, Nat.reduceAdd, Nat.reduceMul, Nat.reduceSub, Nat.reduceLT, Int.reduceToNat, f3, f4, hc1]))
  refine heqB.lendL (.cons how4.vw0 (.free free_eB .nil)) own_bool ?_
  (try (simp (disch := first | omega | (simp <;> omega) | fail) only [push_cast, ↓reduceIte, Nat.reduceEqDiff, Nat.reduceAdd, Nat.reduceMul, Nat.reduceSub, Nat.reduceLT, Int.reduceToNat, hc1]))
  refine (c_laws_markBits _ a _ 1 _ how4 (fun c hc => by have := hc.2; simp; omega) (by omega) (by omega)).mono (fun x h4 hx => ?_) (fun c _ hc => Or.inr (by have := hc.1; omega))
  obtain ⟨rfl, hk2, how6⟩ := hx
  have hl4 := hk2.1
  simp only [List.length_append, List.length_cons, List.length_nil] at hl4
  have hc4 : ∀ l, H.cells (h4 ++ l) h.length = some [.int .i64 a.size, eI a.words] := fun l => cells_app (cells_keep_ (hk2.2 _ (by simp; omega) fun hc => by have := hc.1; omega) (hc1 _))
  have hg4 : ∀ l, H.cells (h4 ++ l) h1.length = some [.int .i64 a.size, w] := fun l => cells_app (cells_keep_ (hk2.2 _ (by simp) fun hc => by have := hc.2; omega) (by rw [cells_h0]; rfl))
  have hg40 := hg4 []
  have hc40 := hc4 []
  rw [List.append_nil] at hg40 hc40
  have how7 : ∀ l, Ow (h4 ++ l) [.agg [.int .i64 a.size, w]] [eB (mkBt 1 a)] (Seg (h.length + 1) h1) := fun l => how6.frame fun c hc => List.getElem?_append_left (by have := hc.2; omega)
  have hheld := c_laws_heldBits a 1 (by omega) (by omega)
  (try (simp (disch := first | omega | (simp <;> omega) | fail) only [push_cast, ↓reduceIte, Nat.reduceEqDiff, Nat.reduceAdd, Nat.reduceMul, Nat.reduceSub, Nat.reduceLT, Int.reduceToNat, hg40]))
  refine hheld.lendL (.cons how6.vw0 (.free free_int .nil)) own_int ?_
  (try (simp (disch := first | omega | (simp <;> omega) | fail) only [push_cast, ↓reduceIte, Nat.reduceEqDiff, Nat.reduceAdd, Nat.reduceMul, Nat.reduceSub, Nat.reduceLT, Int.reduceToNat]))
  refine himpl.fn.call ?_
  (try (simp (disch := first | omega | (simp <;> omega) | fail) only [push_cast, ↓reduceIte, Nat.reduceEqDiff, Nat.reduceAdd, Nat.reduceMul, Nat.reduceSub, Nat.reduceLT, Int.reduceToNat, hc4]))
  refine heqB.call ?_
  (try (simp (disch := first | omega | (simp <;> omega) | fail) only [push_cast, ↓reduceIte, Nat.reduceEqDiff, Nat.reduceAdd, Nat.reduceMul, Nat.reduceSub, Nat.reduceLT, Int.reduceToNat, hg4]))
  refine hheld.lendL (.cons (how7 _).vw0 (.free free_int .nil)) own_int ?_
  (try (simp (disch := first | omega | (simp <;> omega) | fail) only [push_cast, ↓reduceIte, Nat.reduceEqDiff, Nat.reduceAdd, Nat.reduceMul, Nat.reduceSub, Nat.reduceLT, Int.reduceToNat]))

end Go.Proofs.YtoappkfndnggnaaDoor.M
