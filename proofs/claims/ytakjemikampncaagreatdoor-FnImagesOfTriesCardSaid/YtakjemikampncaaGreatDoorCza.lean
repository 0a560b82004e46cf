/-
  What the functions return.
-/
import Derived.Test.YtakjemikampncaaGreatDoorFza
import Derived.Test.YtakjemikampncaaGreatDoorCy
namespace Go.Proofs.YtakjemikampncaaGreatDoor.M
open Go Go.RowKit
attribute [local instance] dqF
set_option linter.unusedVariables false
set_option linter.unusedSimpArgs false
set_option maxRecDepth 4000

theorem c_spec_stPlain (s : Str) : Fn Tryz.prog 39 [.str s] (· = .bool (plainV s)) := by
  refine Fn.of free_bool fun h => ?_
  refine enter (by kernel_rfl) e39 (by kernel_rfl) rfl fun hok => ?_
  simp only [r39, initEnv_1]
  have hlen := (okV_0 hok).str
  (try (simp (disch := first | omega | (simp <;> omega) | fail) only [push_cast, ↓reduceIte, Nat.reduceEqDiff, Nat.reduceAdd, Nat.reduceMul, Nat.reduceSub, Nat.reduceLT, Int.reduceToNat]))
  refine T_for s.length (fun i e h' => Pins e [(0, .str s), (3, .int .i64 i)] ∧ h' = h ∧ plain (s.take i) = true) ?_ ?_
  · (try (simp (disch := first | omega | (simp <;> omega) | fail) only [push_cast, ↓reduceIte, Nat.reduceEqDiff, Nat.reduceAdd, Nat.reduceMul, Nat.reduceSub, Nat.reduceLT, Int.reduceToNat]))
    all_goals (try simp [plain])
  rintro i e h' hi ⟨hp, rfl, ha⟩
  refine T_pins hp fun e => ?_
  (try (simp (disch := first | omega | (simp <;> omega) | fail) only [push_cast, ↓reduceIte, Nat.reduceEqDiff, Nat.reduceAdd, Nat.reduceMul, Nat.reduceSub, Nat.reduceLT, Int.reduceToNat]))
  first | refine goC_split (fun hc => ?_) (fun hc => ?_) | refine cnd_split (fun hc => ?_) (fun hc => ?_)
  · (try (simp only [decide_eq_true_eq, decide_eq_false_iff_not, Bool.not_eq_true', Bool.not_eq_false', Bool.and_eq_true, Bool.or_eq_true, Int.not_lt, Int.not_le] at hc)); (try (simp (disch := first | omega | (simp <;> omega) | fail) only [push_cast, ↓reduceIte, Nat.reduceEqDiff, Nat.reduceAdd, Nat.reduceMul, Nat.reduceSub, Nat.reduceLT, Int.reduceToNat]))
    have hi2 : i < s.length := by omega
    have hpt := plain_take hi2
    cases hk : okCh (s.getD i 0)
    · have hno := plain_no hi2 hk
      unfold plainV
      rw [hno]
      simp only [okCh, Bool.and_eq_false_iff, decide_eq_false_iff_not] at hk
      by_cases h32 : ((s.getD i 0).toNat : Int) < 32
      · (try (simp (disch := first | omega | (simp <;> omega) | fail) only [push_cast, ↓reduceIte, Nat.reduceEqDiff, Nat.reduceAdd, Nat.reduceMul, Nat.reduceSub, Nat.reduceLT, Int.reduceToNat]))
      · have h125 : 125 < ((s.getD i 0).toNat : Int) := by omega
        (try (simp (disch := first | omega | (simp <;> omega) | fail) only [push_cast, ↓reduceIte, Nat.reduceEqDiff, Nat.reduceAdd, Nat.reduceMul, Nat.reduceSub, Nat.reduceLT, Int.reduceToNat]))
    · have hk2 := hk
      simp only [okCh, Bool.and_eq_true, decide_eq_true_eq] at hk2
      obtain ⟨hk3, hk4⟩ := hk2
      (try (simp (disch := first | omega | (simp <;> omega) | fail) only [push_cast, ↓reduceIte, Nat.reduceEqDiff, Nat.reduceAdd, Nat.reduceMul, Nat.reduceSub, Nat.reduceLT, Int.reduceToNat]))
      rw [hpt, ha, hk]
      all_goals (try rfl)
  · (try (simp only [decide_eq_true_eq, decide_eq_false_iff_not, Bool.not_eq_true', Bool.not_eq_false', Bool.and_eq_true, Bool.or_eq_true, Int.not_lt, Int.not_le] at hc)); (try (simp (disch := first | omega | (simp <;> omega) | fail) only [push_cast, ↓reduceIte, Nat.reduceEqDiff, Nat.reduceAdd, Nat.reduceMul, Nat.reduceSub, Nat.reduceLT, Int.reduceToNat]))
    have he : s.take i = s := List.take_of_length_le (by omega)
    rw [he] at ha
    unfold plainV
    rw [ha]
    (first | refine goC_split (fun hc => ?_) (fun hc => ?_) | refine cnd_split (fun hc => ?_) (fun hc => ?_)) <;> ((try (simp (disch := first | omega | (simp <;> omega) | fail) only [push_cast, ↓reduceIte, Nat.reduceEqDiff, Nat.reduceAdd, Nat.reduceMul, Nat.reduceSub, Nat.reduceLT, Int.reduceToNat]))) <;> (try rw [hc])

theorem c_spec_l1Num (n : Nat) (hn : n < 1000000000000) : Fn Tryz.prog 72 [.int .i64 n] (· = .str (Lib.decDigits n)) := by
  induction n using Nat.strongRecOn with
  | _ n ih =>
    refine Fn.of free_str fun h => ?_
    refine enter (by kernel_rfl) e72 (by kernel_rfl) rfl fun hok => ?_
    simp only [r72, initEnv_1]
    rw [dec_rec]
    (try (simp (disch := first | omega | (simp <;> omega) | fail) only [push_cast, ↓reduceIte, Nat.reduceEqDiff, Nat.reduceAdd, Nat.reduceMul, Nat.reduceSub, Nat.reduceLT, Int.reduceToNat]))
    first | refine goC_split (fun hc => ?_) (fun hc => ?_) | refine cnd_split (fun hc => ?_) (fun hc => ?_)
    · have hc2 : n < 10 := by
        simp only [decide_eq_true_eq] at hc
        omega
      have e1 : ((48 : Int) + n).toNat = 48 + n := by omega
      rw [if_pos hc2]
      (try (simp only [decide_eq_true_eq, decide_eq_false_iff_not, Bool.not_eq_true', Bool.not_eq_false', Bool.and_eq_true, Bool.or_eq_true, Int.not_lt, Int.not_le] at hc)); (try (simp (disch := first | omega | (simp <;> omega) | fail) only [push_cast, ↓reduceIte, Nat.reduceEqDiff, Nat.reduceAdd, Nat.reduceMul, Nat.reduceSub, Nat.reduceLT, Int.reduceToNat]))
      (try (simp (disch := first | omega | (simp <;> omega) | fail) only [push_cast, ↓reduceIte, Nat.reduceEqDiff, Nat.reduceAdd, Nat.reduceMul, Nat.reduceSub, Nat.reduceLT, Int.reduceToNat, e1]))
    · have hc2 : ¬ n < 10 := by
        simp only [decide_eq_false_iff_not] at hc
        omega
      have e1 : ((48 : Int) + (n : Int) % 10).toNat = 48 + n % 10 := by omega
      have e2 : ((n / 10 : Nat) : Int) = (n : Int) / 10 := by omega
      have hm : 0 ≤ (n : Int) % 10 ∧ (n : Int) % 10 ≤ 9 := by omega
      have hrec := ih (n / 10) (by omega) (by omega)
      rw [e2] at hrec
      have hdl := dec_len (n := n / 10) (by omega)
      rw [if_neg hc2]
      (try (simp only [decide_eq_true_eq, decide_eq_false_iff_not, Bool.not_eq_true', Bool.not_eq_false', Bool.and_eq_true, Bool.or_eq_true, Int.not_lt, Int.not_le] at hc)); (try (simp (disch := first | omega | (simp <;> omega) | fail) only [push_cast, ↓reduceIte, Nat.reduceEqDiff, Nat.reduceAdd, Nat.reduceMul, Nat.reduceSub, Nat.reduceLT, Int.reduceToNat]))
      refine ⟨?_, ?_⟩
      · refine hrec.call ?_
        (try (simp (disch := first | omega | (simp <;> omega) | fail) only [push_cast, ↓reduceIte, Nat.reduceEqDiff, Nat.reduceAdd, Nat.reduceMul, Nat.reduceSub, Nat.reduceLT, Int.reduceToNat, e1]))
      · (try (simp (disch := first | omega | (simp <;> omega) | fail) only [push_cast, ↓reduceIte, Nat.reduceEqDiff, Nat.reduceAdd, Nat.reduceMul, Nat.reduceSub, Nat.reduceLT, Int.reduceToNat, e1]))
        refine hrec.call ?_
        (try (simp (disch := first | omega | (simp <;> omega) | fail) only [push_cast, ↓reduceIte, Nat.reduceEqDiff, Nat.reduceAdd, Nat.reduceMul, Nat.reduceSub, Nat.reduceLT, Int.reduceToNat, e1]))
theorem c_spec_l1Num_i (n : Int) (h0 : 0 ≤ n) (h1 : n < 1000000000000) : Fn Tryz.prog 72 [.int .i64 n] (· = .str (Lib.itoa n)) := by
  obtain ⟨m, rfl⟩ : ∃ m : Nat, n = (m : Int) := ⟨n.toNat, by omega⟩
  rw [itoa_nn (by omega), Int.toNat_natCast]
  exact c_spec_l1Num m (by omega)

theorem c_spec_stSeal (s : Str) (hl : s.length ≤ 1000000000) : Fn Tryz.prog 40 [.str s] (· = .str (sealT s)) := by
  refine Fn.of free_str fun h => ?_
  refine enter (by kernel_rfl) e40 (by kernel_rfl) rfl fun hok => ?_
  simp only [r40, initEnv_1]
  (try (simp (disch := first | omega | (simp <;> omega) | fail) only [push_cast, ↓reduceIte, Nat.reduceEqDiff, Nat.reduceAdd, Nat.reduceMul, Nat.reduceSub, Nat.reduceLT, Int.reduceToNat]))
  refine T_for s.length (fun i e h' => Pins e [(0, .str s), (3, .int .i64 (chk s i)), (4, .int .i64 i)] ∧ h' = h) ?_ ?_
  · (try (simp (disch := first | omega | (simp <;> omega) | fail) only [push_cast, ↓reduceIte, Nat.reduceEqDiff, Nat.reduceAdd, Nat.reduceMul, Nat.reduceSub, Nat.reduceLT, Int.reduceToNat]))
    all_goals (try rfl)
  rintro i e h' hi ⟨hp, rfl⟩
  refine T_pins hp fun e => ?_
  obtain ⟨k0, k1⟩ := chk_bd s i
  (try (simp (disch := first | omega | (simp <;> omega) | fail) only [push_cast, ↓reduceIte, Nat.reduceEqDiff, Nat.reduceAdd, Nat.reduceMul, Nat.reduceSub, Nat.reduceLT, Int.reduceToNat]))
  first | refine goC_split (fun hc => ?_) (fun hc => ?_) | refine cnd_split (fun hc => ?_) (fun hc => ?_)
  · (try (simp only [decide_eq_true_eq, decide_eq_false_iff_not, Bool.not_eq_true', Bool.not_eq_false', Bool.and_eq_true, Bool.or_eq_true, Int.not_lt, Int.not_le] at hc)); (try (simp (disch := first | omega | (simp <;> omega) | fail) only [push_cast, ↓reduceIte, Nat.reduceEqDiff, Nat.reduceAdd, Nat.reduceMul, Nat.reduceSub, Nat.reduceLT, Int.reduceToNat]))
    have hi2 : i < s.length := by omega
    have hcb : (s.getD i 0).toNat < 256 := UInt8.toNat_lt _
    have hm := mul_bd (x := (i : Int) + 1) (y := ((s.getD i 0).toNat : Int)) (a := 1000000001) (b := 255) (by omega) (by omega) (by omega) (by omega)
    have hs : chk s (i + 1) = (chk s i + ((i : Int) + 1) * ((s.getD i 0).toNat : Int)) % 65521 := rfl
    (try (simp (disch := first | omega | (simp <;> omega) | fail) only [push_cast, ↓reduceIte, Nat.reduceEqDiff, Nat.reduceAdd, Nat.reduceMul, Nat.reduceSub, Nat.reduceLT, Int.reduceToNat]))
    all_goals (try (rw [hs]))
  · (try (simp only [decide_eq_true_eq, decide_eq_false_iff_not, Bool.not_eq_true', Bool.not_eq_false', Bool.and_eq_true, Bool.or_eq_true, Int.not_lt, Int.not_le] at hc)); (try (simp (disch := first | omega | (simp <;> omega) | fail) only [push_cast, ↓reduceIte, Nat.reduceEqDiff, Nat.reduceAdd, Nat.reduceMul, Nat.reduceSub, Nat.reduceLT, Int.reduceToNat]))
    have hie : i = s.length := by omega
    subst hie
    obtain ⟨n, hn⟩ : ∃ n : Nat, chk s s.length = (n : Int) := ⟨_, (Int.toNat_of_nonneg k0).symm⟩
    have hdl := dec_len (n := n) (by omega)
    have hst : sealT s = s ++ 126 :: Lib.decDigits n := by
      unfold sealT
      rw [hn, Int.toNat_natCast]
    rw [hn]
    (try (simp (disch := first | omega | (simp <;> omega) | fail) only [push_cast, ↓reduceIte, Nat.reduceEqDiff, Nat.reduceAdd, Nat.reduceMul, Nat.reduceSub, Nat.reduceLT, Int.reduceToNat]))
    refine (c_spec_l1Num n (by omega)).call ?_
    (try (simp (disch := first | omega | (simp <;> omega) | fail) only [push_cast, ↓reduceIte, Nat.reduceEqDiff, Nat.reduceAdd, Nat.reduceMul, Nat.reduceSub, Nat.reduceLT, Int.reduceToNat]))
    rw [hst]
    all_goals (try simp)

def beforeT (s : Str) : Str := s.takeWhile fun c => c != 126
def openOk (s t : Str) : Bool := plainV t && decide (sealT t = s)
def openV (s : Str) : AV := if openOk s (beforeT s) then .tup [.str (beforeT s), .bool true] else .tup [.str [], .bool false]
theorem free_openV {s : Str} : Free (openV s) := by
  unfold openV
  split <;> exact free_tup (free_cons_ free_str (free_cons_ free_bool free_nil_))
theorem plain_no126 {t : Str} (h : plain t = true) : ∀ c ∈ t, (c != 126) = true := by
  intro c hc
  have := List.all_eq_true.1 h c hc
  simp only [okCh, Bool.and_eq_true, decide_eq_true_eq] at this
  simp only [bne_iff_ne, ne_eq]
  intro he
  subst he
  simp at this
theorem plainV_plain {t : Str} (h : plainV t = true) : plain t = true := by
  simp only [plainV, Bool.and_eq_true] at h
  exact h.1
theorem before_app {t r : Str} (h : ∀ c ∈ t, (c != 126) = true) : beforeT (t ++ 126 :: r) = t := by
  unfold beforeT
  rw [List.takeWhile_append_of_pos h]
  simp
theorem sealT_len (t : Str) : t.length < (sealT t).length := by
  unfold sealT
  simp
theorem dec_no126 {n : Nat} : (126 : UInt8) ∉ Lib.decDigits n := fun h => by
  have := dec_plain n 126 h
  simp at this
theorem before_no : ∀ {s : Str}, (126 : UInt8) ∉ s → beforeT s = s
  | [], _ => rfl
  | c :: s, h => by
    simp only [List.mem_cons, not_or] at h
    have ih := before_no h.2
    have hc : (c != 126) = true := by simpa using Ne.symm h.1
    unfold beforeT at ih ⊢
    rw [List.takeWhile_cons, if_pos hc, ih]
theorem open_none {s : Str} (h : (126 : UInt8) ∉ s) : openOk s (beforeT s) = false := by
  rw [before_no h]
  unfold openOk
  have := sealT_len s
  have hne : sealT s ≠ s := fun he => by
    rw [he] at this
    omega
  simp [hne]
theorem split_at {s : Str} {a : Nat} (ha : a < s.length) (hc : s.getD a 0 = 126) : s = s.take a ++ 126 :: s.drop (a + 1) := by
  have h1 : s[a] = 126 := by simpa [ha] using hc
  conv => lhs; rw [← List.take_append_drop a s, List.drop_eq_getElem_cons ha, h1]
/-- The last mark serves as well as the first. -/
theorem open_last {s : Str} {a : Nat} (ha : a < s.length) (hc : s.getD a 0 = 126) (hd : (126 : UInt8) ∉ s.drop (a + 1)) : openOk s (s.take a) = openOk s (beforeT s) ∧ (openOk s (s.take a) = true → s.take a = beforeT s) := by
  have hs := split_at ha hc
  by_cases hp : plainV (s.take a) = true
  · have hb : beforeT s = s.take a := by
      conv => lhs; rw [hs]
      exact before_app (plain_no126 (plainV_plain hp))
    rw [hb]
    exact ⟨rfl, fun _ => rfl⟩
  · have h1 : openOk s (s.take a) = false := by
      unfold openOk
      rw [Bool.not_eq_true] at hp
      rw [hp]
      rfl
    refine ⟨?_, fun h => by rw [h1] at h; cases h⟩
    rw [h1]
    cases h2 : openOk s (beforeT s) with
    | false => rfl
    | true =>
      exfalso
      simp only [openOk, Bool.and_eq_true, decide_eq_true_eq] at h2
      obtain ⟨p1, p2⟩ := h2
      generalize beforeT s = t at p1 p2
      unfold sealT at p2
      have hget : (t ++ 126 :: Lib.decDigits (chk t t.length).toNat)[a]? = some 126 := by
        rw [p2]
        simpa [ha] using hc
      rcases Nat.lt_trichotomy a t.length with h5 | h5 | h5
      · rw [List.getElem?_append_left h5] at hget
        have := plain_no126 (plainV_plain p1) 126 (List.mem_of_getElem? hget)
        simp at this
      · subst h5
        refine hp ?_
        rw [← p2, List.take_left]
        exact p1
      · rw [List.getElem?_append_right (by omega), show a - t.length = (a - t.length - 1) + 1 by omega, List.getElem?_cons_succ] at hget
        exact dec_no126 (List.mem_of_getElem? hget)

theorem c_spec_stOpen (s : Str) : Fn Tryz.prog 20 [.str s] (· = openV s) := by
  refine Fn.of free_openV fun h => ?_
  refine enter (by kernel_rfl) e20 (by kernel_rfl) rfl fun hok => ?_
  simp only [r20, initEnv_1]
  have hlen := (okV_0 hok).str
  (try (simp (disch := first | omega | (simp <;> omega) | fail) only [push_cast, ↓reduceIte, Nat.reduceEqDiff, Nat.reduceAdd, Nat.reduceMul, Nat.reduceSub, Nat.reduceLT, Int.reduceToNat]))
  refine T_for s.length (fun i e h' => Pins e [(0, .str s), (4, .int .i64 ((s.length : Int) - 1 - i))] ∧ h' = h ∧ (126 : UInt8) ∉ s.drop (s.length - i)) ?_ ?_
  · (try (simp (disch := first | omega | (simp <;> omega) | fail) only [push_cast, ↓reduceIte, Nat.reduceEqDiff, Nat.reduceAdd, Nat.reduceMul, Nat.reduceSub, Nat.reduceLT, Int.reduceToNat]))
    all_goals (try simp)
  rintro i e h' hi ⟨hp, rfl, hd⟩
  refine T_pins hp fun e => ?_
  by_cases hlt : i < s.length
  · have e1 : ((s.length : Int) - 1 - (i : Int)).toNat = s.length - 1 - i := by omega
    have hdc : s.drop (s.length - (i + 1)) = s.getD (s.length - 1 - i) 0 :: s.drop (s.length - i) := by
      rw [show s.length - (i + 1) = s.length - 1 - i by omega, List.drop_eq_getElem_cons (by omega)]
      simp [show s.length - 1 - i < s.length by omega, show s.length - 1 - i + 1 = s.length - i by omega]
    by_cases hch : ((s.getD (s.length - 1 - i) 0).toNat : Int) = 126
    · have hc2 : s.getD (s.length - 1 - i) 0 = 126 := by
        apply UInt8.toNat_inj.1
        have : (126 : UInt8).toNat = 126 := rfl
        omega
      obtain ⟨o1, o2⟩ := open_last (s := s) (a := s.length - 1 - i) (by omega) hc2 (by rw [show s.length - 1 - i + 1 = s.length - i by omega]; exact hd)
      have hnp : plainV (s.take (s.length - 1 - i)) = false ∨ (s.take (s.length - 1 - i)).length ≤ 6000 := by
        cases h5 : plainV (s.take (s.length - 1 - i)) with
        | false => exact .inl rfl
        | true =>
          right
          simp only [plainV, Bool.and_eq_true, decide_eq_true_eq] at h5
          omega
      have hA : openV s = if openOk s (s.take (s.length - 1 - i)) then .tup [.str (s.take (s.length - 1 - i)), .bool true] else .tup [.str [], .bool false] := by
        unfold openV
        rw [← o1]
        cases h5 : openOk s (s.take (s.length - 1 - i)) with
        | false => rfl
        | true => rw [o2 h5]
      rw [hA]
      (try (simp (disch := first | omega | (simp <;> omega) | fail) only [push_cast, ↓reduceIte, Nat.reduceEqDiff, Nat.reduceAdd, Nat.reduceMul, Nat.reduceSub, Nat.reduceLT, Int.reduceToNat, e1, hch, List.drop_zero, Nat.sub_zero]))
      refine (c_spec_stPlain _).call ?_
      unfold openOk
      cases h5 : plainV (s.take (s.length - 1 - i))
      · (try (simp (disch := first | omega | (simp <;> omega) | fail) only [push_cast, ↓reduceIte, Nat.reduceEqDiff, Nat.reduceAdd, Nat.reduceMul, Nat.reduceSub, Nat.reduceLT, Int.reduceToNat, e1, List.drop_zero, Nat.sub_zero]))
        all_goals (try rfl)
      · have h6 : (s.take (s.length - 1 - i)).length ≤ 6000 := by
          rcases hnp with h7 | h7
          · rw [h5] at h7; cases h7
          · exact h7
        (try (simp (disch := first | omega | (simp <;> omega) | fail) only [push_cast, ↓reduceIte, Nat.reduceEqDiff, Nat.reduceAdd, Nat.reduceMul, Nat.reduceSub, Nat.reduceLT, Int.reduceToNat, e1, List.drop_zero, Nat.sub_zero]))
        refine (c_spec_stSeal _ (by omega)).call ?_
        by_cases h8 : sealT (s.take (s.length - 1 - i)) = s
        · (try (simp (disch := first | omega | (simp <;> omega) | fail) only [push_cast, ↓reduceIte, Nat.reduceEqDiff, Nat.reduceAdd, Nat.reduceMul, Nat.reduceSub, Nat.reduceLT, Int.reduceToNat, e1, h8, List.drop_zero, Nat.sub_zero]))
          all_goals (try rfl)
        · (try (simp (disch := first | omega | (simp <;> omega) | fail) only [push_cast, ↓reduceIte, Nat.reduceEqDiff, Nat.reduceAdd, Nat.reduceMul, Nat.reduceSub, Nat.reduceLT, Int.reduceToNat, e1, h8, List.drop_zero, Nat.sub_zero]))
          all_goals (try rfl)
    · (try (simp (disch := first | omega | (simp <;> omega) | fail) only [push_cast, ↓reduceIte, Nat.reduceEqDiff, Nat.reduceAdd, Nat.reduceMul, Nat.reduceSub, Nat.reduceLT, Int.reduceToNat, e1, hch]))
      all_goals (try (refine ⟨by omega, ?_⟩))
      rw [hdc]
      simp only [List.mem_cons, not_or]
      refine ⟨fun he => hch ?_, hd⟩
      rw [← he]
      rfl
  · have hie : i = s.length := by omega
    subst hie
    have hno : (126 : UInt8) ∉ s := by simpa using hd
    have hA : openV s = .tup [.str [], .bool false] := by
      unfold openV
      rw [open_none hno]
      rfl
    rw [hA]
    (try (simp (disch := first | omega | (simp <;> omega) | fail) only [push_cast, ↓reduceIte, Nat.reduceEqDiff, Nat.reduceAdd, Nat.reduceMul, Nat.reduceSub, Nat.reduceLT, Int.reduceToNat]))
    all_goals (try rfl)

/-- Cut at each c. -/
def splitL (c : UInt8) : Str → List Str
  | [] => [[]]
  | x :: s => if x = c then [] :: splitL c s else match splitL c s with | [] => [[x]] | p :: ps => (x :: p) :: ps
theorem index_c (c b : UInt8) (l : Str) : Lib.index (b :: l) [c] = if b = c then 0 else if Lib.index l [c] = -1 then -1 else Lib.index l [c] + 1 := by
  rw [Lib.index]
  by_cases h : b = c
  · subst h
    simp
  · have h2 : ¬ c = b := fun e => h e.symm
    simp [h, h2]
theorem split_lib (c : UInt8) : ∀ s : Str, Lib.splitK [c] 0 (Lib.count s [c]) s = splitL c s
  | [] => by
    have h : Lib.index [] [c] = -1 := by simp [Lib.index]
    rw [Lib.count_miss h]
    rfl
  | b :: l => by
    have ih := split_lib c l
    have hi := index_c c b l
    by_cases h : b = c
    · rw [if_pos h] at hi
      rw [Lib.count_hit (i := 0) (by simp) hi, Nat.add_comm, Lib.splitK, hi]
      simp only [splitL, if_pos h]
      rw [← ih]
      simp
    · rw [if_neg h] at hi
      by_cases hm : Lib.index l [c] = -1
      · rw [if_pos hm] at hi
        rw [Lib.count_miss hi]
        rw [Lib.count_miss hm] at ih
        simp only [splitL, if_neg h]
        rw [← ih]
        rfl
      · rw [if_neg hm] at hi
        have hge := Lib.index_ge l [c]
        obtain ⟨i, hi2⟩ : ∃ i : Nat, Lib.index l [c] = i := ⟨(Lib.index l [c]).toNat, by omega⟩
        rw [hi2] at hi
        rw [Lib.count_hit (i := i + 1) (by simp) hi, Nat.add_comm, Lib.splitK, hi]
        rw [Lib.count_hit (i := i) (by simp) hi2, Nat.add_comm, Lib.splitK, hi2] at ih
        have e1 : (((i : Int) == -1) : Bool) = false := by simp
        have e2 : (((i : Int) + 1 == -1) : Bool) = false := by simp; omega
        rw [e1] at ih
        rw [e2]
        simp only [splitL, if_neg h]
        rw [← ih]
        simp only [Bool.false_eq_true, if_false, Int.toNat_natCast, Nat.add_zero, List.length_singleton]
        rw [show ((i : Int) + 1).toNat = i + 1 by omega]
        simp
theorem splitL_count (c : UInt8) : ∀ s : Str, (splitL c s).length = Lib.count s [c] + 1
  | [] => by
    have h : Lib.index [] [c] = -1 := by simp [Lib.index]
    rw [Lib.count_miss h]
    rfl
  | b :: l => by
    have ih := splitL_count c l
    have hi := index_c c b l
    by_cases h : b = c
    · rw [if_pos h] at hi
      rw [Lib.count_hit (i := 0) (by simp) hi]
      simp only [splitL, if_pos h, List.length_cons, ih]
      simp
      omega
    · have hc : Lib.count (b :: l) [c] = Lib.count l [c] := by
        rw [if_neg h] at hi
        by_cases hm : Lib.index l [c] = -1
        · rw [if_pos hm] at hi
          rw [Lib.count_miss hi, Lib.count_miss hm]
        · rw [if_neg hm] at hi
          have hge := Lib.index_ge l [c]
          obtain ⟨i, hi2⟩ : ∃ i : Nat, Lib.index l [c] = i := ⟨(Lib.index l [c]).toNat, by omega⟩
          rw [hi2] at hi
          rw [Lib.count_hit (i := i + 1) (by simp) hi, Lib.count_hit (i := i) (by simp) hi2]
          simp
      rw [hc]
      simp only [splitL, if_neg h]
      cases hs : splitL c l with
      | nil => rw [hs] at ih; simp at ih
      | cons p ps => rw [hs] at ih; simpa using ih
theorem splitL_ne (c : UInt8) (s : Str) : splitL c s ≠ [] := fun h => by
  have := splitL_count c s
  rw [h] at this
  simp at this
theorem splitL_no (c : UInt8) : ∀ s : Str, (∀ x ∈ s, x ≠ c) → splitL c s = [s]
  | [], _ => rfl
  | x :: s, h => by
    rw [splitL, if_neg (h x (by simp)), splitL_no c s (fun y hy => h y (List.mem_cons_of_mem _ hy))]
theorem splitL_app (c : UInt8) : ∀ p s : Str, (∀ x ∈ p, x ≠ c) → splitL c (p ++ c :: s) = p :: splitL c s
  | [], s, _ => by simp [splitL]
  | x :: p, s, h => by
    rw [List.cons_append, splitL, if_neg (h x (by simp)), splitL_app c p s (fun y hy => h y (List.mem_cons_of_mem _ hy))]
/-- The first piece, and what is behind it. -/
theorem splitL_hd (c : UInt8) : ∀ s : Str, (∃ p t, s = p ++ c :: t ∧ (∀ x ∈ p, x ≠ c) ∧ splitL c s = p :: splitL c t) ∨ ((∀ x ∈ s, x ≠ c) ∧ splitL c s = [s])
  | [] => .inr ⟨by simp, rfl⟩
  | x :: s => by
    by_cases hx : x = c
    · exact .inl ⟨[], s, by simp [hx], by simp, by simp [splitL, hx]⟩
    · rcases splitL_hd c s with ⟨p, t, h1, h2, h3⟩ | ⟨h1, h2⟩
      · exact .inl ⟨x :: p, t, by simp [h1], by
          intro y hy
          rcases List.mem_cons.1 hy with rfl | hy
          · exact hx
          · exact h2 y hy, by rw [splitL, if_neg hx, h3]⟩
      · exact .inr ⟨by
          intro y hy
          rcases List.mem_cons.1 hy with rfl | hy
          · exact hx
          · exact h1 y hy, by rw [splitL, if_neg hx, h2]⟩
theorem splitL_nohas (c : UInt8) : ∀ (s : Str) (p : Str), p ∈ splitL c s → ∀ x ∈ p, x ≠ c
  | [], p, hp => by
    simp [splitL] at hp
    subst hp
    simp
  | x :: s, p, hp => by
    rw [splitL] at hp
    split at hp
    · rcases List.mem_cons.1 hp with rfl | hp
      · simp
      · exact splitL_nohas c s p hp
    · rename_i hx
      have ih := splitL_nohas c s
      cases hs : splitL c s with
      | nil => exact absurd hs (splitL_ne c s)
      | cons q qs =>
        rw [hs] at hp ih
        rcases List.mem_cons.1 hp with rfl | hp
        · intro y hy
          rcases List.mem_cons.1 hy with rfl | hy
          · exact hx
          · exact ih q (by simp) y hy
        · exact ih p (List.mem_cons_of_mem _ hp)
theorem splitL_len (c : UInt8) : ∀ (s : Str) (p : Str), p ∈ splitL c s → p.length ≤ s.length
  | [], p, hp => by
    simp [splitL] at hp
    simp [hp]
  | x :: s, p, hp => by
    rw [splitL] at hp
    have ih := splitL_len c s
    split at hp
    · rcases List.mem_cons.1 hp with rfl | hp
      · simp
      · have := ih p hp
        simp
        omega
    · cases hs : splitL c s with
      | nil => exact absurd hs (splitL_ne c s)
      | cons q qs =>
        rw [hs] at hp ih
        rcases List.mem_cons.1 hp with rfl | hp
        · have := ih q (by simp)
          simp
          omega
        · have := ih p (List.mem_cons_of_mem _ hp)
          simp
          omega
theorem splitL_nlen (c : UInt8) : ∀ s : Str, (splitL c s).length ≤ s.length + 1
  | [] => by simp [splitL]
  | x :: s => by
    have ih := splitL_nlen c s
    rw [splitL]
    split
    · simp
      omega
    · cases hs : splitL c s with
      | nil => simp
      | cons q qs =>
        rw [hs] at ih
        simp at ih ⊢
        omega
theorem split_vals (c : UInt8) (s : Str) : (Lib.splitB ⟨#[c]⟩ 0 (Lib.countB ⟨s.toArray⟩ ⟨#[c]⟩) ⟨s.toArray⟩).map Value.string = (splitL c s).map fun p => Value.string ⟨p.toArray⟩ := by
  have h := Lib.splitB_data ⟨#[c]⟩ 0 (Lib.countB ⟨s.toArray⟩ ⟨#[c]⟩) ⟨s.toArray⟩
  have h2 : Lib.splitK [c] 0 (Lib.count s [c]) s = splitL c s := split_lib c s
  simp only [Lib.countB] at h ⊢
  rw [h2] at h
  rw [← h, List.map_map]
  refine List.map_congr_left fun x _ => ?_
  obtain ⟨⟨l⟩⟩ := x
  rfl

/-- The pieces so far. -/
def SpI (s : Str) (i : Nat) (L : List Str) (fr : Nat) : Prop := fr ≤ i ∧ splitL 32 s = L ++ splitL 32 (s.drop fr) ∧ ∀ x ∈ (s.drop fr).take (i - fr), x ≠ 32
theorem SpI.zero {s : Str} : SpI s 0 [] 0 := ⟨Nat.le_refl _, by simp, by simp⟩
theorem take_next {s : Str} {i fr : Nat} (hi : i < s.length) (hf : fr ≤ i) : (s.drop fr).take (i + 1 - fr) = (s.drop fr).take (i - fr) ++ [s.getD i 0] := by
  rw [show i + 1 - fr = i - fr + 1 by omega, List.take_add_one]
  congr 1
  simp [show fr + (i - fr) = i by omega, hi]
theorem SpI.miss {s : Str} {i fr : Nat} {L : List Str} (hs : SpI s i L fr) (hi : i < s.length) (hc : s.getD i 0 ≠ 32) : SpI s (i + 1) L fr := by
  obtain ⟨h1, h2, h3⟩ := hs
  refine ⟨by omega, h2, fun x hx => ?_⟩
  rw [take_next hi h1] at hx
  rcases List.mem_append.1 hx with hx | hx
  · exact h3 x hx
  · simp at hx
    rw [hx]
    simpa using hc
theorem SpI.hit {s : Str} {i fr : Nat} {L : List Str} (hs : SpI s i L fr) (hi : i < s.length) (hc : s.getD i 0 = 32) : SpI s (i + 1) (L ++ [(s.drop fr).take (i - fr)]) (i + 1) := by
  obtain ⟨h1, h2, h3⟩ := hs
  refine ⟨Nat.le_refl _, ?_, by simp⟩
  have hd : s.drop fr = (s.drop fr).take (i - fr) ++ 32 :: s.drop (i + 1) := by
    conv => lhs; rw [← List.take_append_drop (i - fr) (s.drop fr)]
    congr 1
    rw [List.drop_drop, show fr + (i - fr) = i by omega, List.drop_eq_getElem_cons hi]
    congr 1
    simpa [hi] using hc
  rw [h2]
  conv => lhs; rw [hd, splitL_app 32 _ _ h3]
  simp
theorem SpI.fin {s : Str} {fr : Nat} {L : List Str} (hs : SpI s s.length L fr) : splitL 32 s = L ++ [s.drop fr] := by
  obtain ⟨h1, h2, h3⟩ := hs
  rw [h2]
  congr 1
  refine splitL_no 32 _ fun x hx => h3 x ?_
  rwa [List.take_of_length_le (by simp)]

theorem c_spec_l1Split (s : Str) (hl : s.length ≤ 1000000) : Fn Tryz.prog 21 [.str s, .int .u8 32] (· = eS (some (splitL 32 s))) := by
  refine Fn.froze fun h => ?_
  refine enter (by kernel_rfl) e21 (by kernel_rfl) rfl fun hok => ?_
  simp only [r21, initEnv_2]
  have hnl := splitL_nlen 32 s
  (try (simp (disch := first | omega | (simp <;> omega) | fail) only [push_cast, ↓reduceIte, Nat.reduceEqDiff, Nat.reduceAdd, Nat.reduceMul, Nat.reduceSub, Nat.reduceLT, Int.reduceToNat]))
  refine T_for s.length (fun i e h' => ∃ (v : AV) (B : List Nat) (L : List Str) (fr : Nat), Pins e [(0, .str s), (1, .int .u8 32), (5, v), (6, .int .i64 fr), (7, .int .i64 i)] ∧ S1 h' 1 v L.length (L.map .str) B ∧ (∀ k ∈ B, h.length ≤ k) ∧ (SpI s i L fr ∧ L.length ≤ i ∧ h.length ≤ h'.length)) ?_ ?_
  · refine ⟨.nils, [], [], 0, ?_⟩
    (try (simp (disch := first | omega | (simp <;> omega) | fail) only [push_cast, ↓reduceIte, Nat.reduceEqDiff, Nat.reduceAdd, Nat.reduceMul, Nat.reduceSub, Nat.reduceLT, Int.reduceToNat]))
    all_goals (try exact ⟨S1.nil, by simp, SpI.zero, by omega⟩)
    all_goals (try exact ⟨S1.nil, by simp, SpI.zero, by simp⟩)
    all_goals (try exact ⟨S1.nil, by simp, SpI.zero⟩)
  rintro i e h' hi ⟨v, B, L, fr, hp, hs, hB, hsp, hLi, hlt⟩
  refine T_pins hp fun e => ?_
  have hfr := hsp.1
  have hgo : ∀ (p : Str) (Q : AV → H → Prop), (∀ v' h'' B', S1 h'' 1 v' (L ++ [p]).length ((L ++ [p]).map .str) B' → (∀ k ∈ B', h.length ≤ k) → h.length ≤ h''.length → Q v' h'') → apA (fun c => Nowhere c ∨ h.length ≤ c) (h' ++ [some (.cells [.str p])]) Q 1 16 (some ([.str p], 1)) v := fun p Q hQ => by
    have hs2 := hs.frame (h' := h' ++ [some (.cells [.str p])]) fun c hc => List.getElem?_append_left (hs.lt c hc)
    refine hs2.app (fun c hc => Or.inr (hB c hc)) rfl (by decide) (by omega) fun v' h'' B' q1 q2 q3 q4 => ?_
    simp only [List.length_append, List.length_cons, List.length_nil] at q2 q4
    refine hQ v' h'' B' ?_ (fun k hk => ?_) (by omega)
    · simpa using q1
    · rcases q4 k hk with h5 | h5
      · exact hB k h5
      · omega
  (try (simp (disch := first | omega | (simp <;> omega) | fail) only [push_cast, ↓reduceIte, Nat.reduceEqDiff, Nat.reduceAdd, Nat.reduceMul, Nat.reduceSub, Nat.reduceLT, Int.reduceToNat]))
  first | refine goC_split (fun hc => ?_) (fun hc => ?_) | refine cnd_split (fun hc => ?_) (fun hc => ?_)
  · (try (simp only [decide_eq_true_eq, decide_eq_false_iff_not, Bool.not_eq_true', Bool.not_eq_false', Bool.and_eq_true, Bool.or_eq_true, Int.not_lt, Int.not_le] at hc)); (try (simp (disch := first | omega | (simp <;> omega) | fail) only [push_cast, ↓reduceIte, Nat.reduceEqDiff, Nat.reduceAdd, Nat.reduceMul, Nat.reduceSub, Nat.reduceLT, Int.reduceToNat]))
    have hi2 : i < s.length := by omega
    by_cases hch : ((s.getD i 0).toNat : Int) = 32
    · have hc2 : s.getD i 0 = 32 := UInt8.toNat_inj.1 (by have : (32 : UInt8).toNat = 32 := rfl; omega)
      have hnx := hsp.hit hi2 hc2
      (try (simp (disch := first | omega | (simp <;> omega) | fail) only [push_cast, ↓reduceIte, Nat.reduceEqDiff, Nat.reduceAdd, Nat.reduceMul, Nat.reduceSub, Nat.reduceLT, Int.reduceToNat, hch]))
      refine hgo _ _ fun v' h'' B' q1 q2 q3 => ?_
      (try (simp (disch := first | omega | (simp <;> omega) | fail) only [push_cast, ↓reduceIte, Nat.reduceEqDiff, Nat.reduceAdd, Nat.reduceMul, Nat.reduceSub, Nat.reduceLT, Int.reduceToNat]))
      all_goals (try exact ⟨_, B', _, i + 1, ⟨rfl, by omega⟩, q1, q2, hnx, by simp; omega, q3⟩)
      all_goals (try exact ⟨_, B', _, i + 1, ⟨rfl, by omega⟩, q1, q2, hnx, by simp; omega⟩)
    · have hc2 : s.getD i 0 ≠ 32 := fun he => hch (by rw [he]; rfl)
      have hnx := hsp.miss hi2 hc2
      (try (simp (disch := first | omega | (simp <;> omega) | fail) only [push_cast, ↓reduceIte, Nat.reduceEqDiff, Nat.reduceAdd, Nat.reduceMul, Nat.reduceSub, Nat.reduceLT, Int.reduceToNat, hch]))
      all_goals (try exact ⟨_, B, L, fr, ⟨rfl, rfl⟩, hs, hB, hnx, by omega, hlt⟩)
      all_goals (try exact ⟨_, B, L, fr, ⟨rfl, rfl⟩, hs, hB, hnx, by omega⟩)
  · (try (simp only [decide_eq_true_eq, decide_eq_false_iff_not, Bool.not_eq_true', Bool.not_eq_false', Bool.and_eq_true, Bool.or_eq_true, Int.not_lt, Int.not_le] at hc)); (try (simp (disch := first | omega | (simp <;> omega) | fail) only [push_cast, ↓reduceIte, Nat.reduceEqDiff, Nat.reduceAdd, Nat.reduceMul, Nat.reduceSub, Nat.reduceLT, Int.reduceToNat]))
    have hie : i = s.length := by omega
    subst hie
    have hfin := hsp.fin
    have hdr : List.take (s.length - fr) (List.drop fr s) = s.drop fr := List.take_of_length_le (by simp)
    (try (simp (disch := first | omega | (simp <;> omega) | fail) only [push_cast, ↓reduceIte, Nat.reduceEqDiff, Nat.reduceAdd, Nat.reduceMul, Nat.reduceSub, Nat.reduceLT, Int.reduceToNat, hdr]))
    refine hgo _ _ fun v' h'' B' q1 hB' q3 => ?_
    rw [← hfin] at q1
    have hvw : Vw h'' h.length v' (eS (some (splitL 32 s))) := by
      rcases q1.2 with ⟨_, h0, _⟩ | ⟨b, rfl, hb, hcb⟩
      · exact absurd (List.length_eq_zero_iff.1 h0) (splitL_ne 32 s)
      · exact vw_all (hB' b (by rw [hb]; simp)) hcb (by simp) (one_map fun _ => rfl) (free_map_ fun _ => free_str)
    (try (simp (disch := first | omega | (simp <;> omega) | fail) only [push_cast, ↓reduceIte, Nat.reduceEqDiff, Nat.reduceAdd, Nat.reduceMul, Nat.reduceSub, Nat.reduceLT, Int.reduceToNat]))
    all_goals (try exact hvw)

def trW : Str := [116, 114, 105, 101]
def zTr : Tr := ⟨⟨0, none⟩, ⟨0, none⟩, []⟩
/-- The keys that a sealed text of a trie holds. -/
def ltD (s : Str) : Option (List Str) := if openOk s (beforeT s) = true ∧ (splitL 32 (beforeT s)).getD 0 [] = trW ∧ okKeys ((splitL 32 (beforeT s)).drop 1) = true then some ((splitL 32 (beforeT s)).drop 1) else none
def ltA (s : Str) : Tr := match ltD s with
  | some K => tK K
  | none => zTr
def ltq (s : Str) : Bool := (ltD s).isSome
def ltV (s : Str) : AV := .tup [eTr (ltA s), .bool (ltq s)]
theorem lt_some {s : Str} {K : List Str} (h : ltD s = some K) : ltV s = .tup [eTr (tK K), .bool true] := by
  unfold ltV ltA ltq
  rw [h]
  rfl
theorem lt_none {s : Str} (h : ltD s = none) : ltV s = .tup [eTr zTr, .bool false] := by
  unfold ltV ltA ltq
  rw [h]
  rfl
theorem lt_in {s : Str} {K : List Str} (h : ltD s = some K) : openOk s (beforeT s) = true ∧ (splitL 32 (beforeT s)).getD 0 [] = trW ∧ okKeys K = true ∧ K = (splitL 32 (beforeT s)).drop 1 := by
  unfold ltD at h
  split at h
  · rename_i hc
    injection h with h
    exact ⟨hc.1, hc.2.1, h ▸ hc.2.2, h.symm⟩
  · cases h
theorem ltA_len {s : Str} : (lI (ltA s).sh.words).length ≤ 10000 ∧ (lI (ltA s).en.words).length ≤ 10000 := by
  unfold ltA
  cases h : ltD s with
  | none => exact ⟨by simp [zTr, lI], by simp [zTr, lI]⟩
  | some K =>
    have hK := (lt_in h).2.2.1
    have hN := nodesK_cap (okKeys_all hK).2.2
    have hs := (nodesK_tri hK).shape
    have he : (endL K (nodesK K)).length = (nodesK K).length := by simp [endL]
    refine ⟨?_, ?_⟩
    · show (wordsN _ _).length ≤ 10000
      rw [wordsN_len]
      omega
    · show (wordsN _ _).length ≤ 10000
      rw [wordsN_len]
      omega

def openedV (s word : Str) : AV := if openOk s (beforeT s) = true ∧ (splitL 32 (beforeT s)).getD 0 [] = word then .tup [eS (some ((splitL 32 (beforeT s)).drop 1)), .bool true] else .tup [.nils, .bool false]
theorem free_openedV {s w : Str} : Free (openedV s w) := by
  unfold openedV
  split
  · exact free_tup (free_cons_ (free_eS_ (some _)) (free_cons_ free_bool free_nil_))
  · exact free_tup (free_cons_ free_nils (free_cons_ free_bool free_nil_))
theorem open_len {s : Str} (h : openOk s (beforeT s) = true) : (beforeT s).length ≤ 6000 := by
  simp only [openOk, plainV, Bool.and_eq_true, decide_eq_true_eq] at h
  omega

theorem c_spec_LoadTrie (s : Str) : Fn Tryz.prog 6 [.str s] (· = ltV s) := by
  refine Fn.froze fun h => ?_
  refine enter (by kernel_rfl) e6 (by kernel_rfl) rfl fun hok => ?_
  simp only [r6, initEnv_1]
  have hnone : ∀ {hh : H}, ltD s = none → Vw hh h.length (.tup [.agg [.int .i64 0, .nils, .int .i64 0, .nils, .str []], .bool false]) (ltV s) := fun h1 => by
    rw [lt_none h1]
    exact .free (free_tup (free_cons_ (free_eTr (t := zTr)) (free_cons_ free_bool free_nil_)))
  have hpm : (h.length ≤ h.length) = True := by simp
  have hb0 : H.cells (h ++ [some (.cells [.int .i64 0, .nils, .int .i64 0, .nils, .str []])]) h.length = some [.int .i64 0, .nils, .int .i64 0, .nils, .str []] := by rw [cells_h0]; rfl
  have hw := fun cs => cells_wr2 (cells_lt hb0) (cs := cs)
  (try (simp (disch := first | omega | (simp <;> omega) | fail) only [push_cast, ↓reduceIte, Nat.reduceEqDiff, Nat.reduceAdd, Nat.reduceMul, Nat.reduceSub, Nat.reduceLT, Int.reduceToNat]))
  refine (c_spec_stOpen s).call ?_
  unfold openV
  cases hk : openOk s (beforeT s)
  · have hl : ltD s = none := by
      unfold ltD
      rw [hk, if_neg (by simp)]
    (try (simp (disch := first | omega | (simp <;> omega) | fail) only [push_cast, ↓reduceIte, Nat.reduceEqDiff, Nat.reduceAdd, Nat.reduceMul, Nat.reduceSub, Nat.reduceLT, Int.reduceToNat]))
    refine (c_spec_l1Split [] (by simp)).call ?_
    (try (simp (disch := first | omega | (simp <;> omega) | fail) only [push_cast, ↓reduceIte, Nat.reduceEqDiff, Nat.reduceAdd, Nat.reduceMul, Nat.reduceSub, Nat.reduceLT, Int.reduceToNat, hb0, hpm, hw]))
    all_goals (try exact hnone hl)
    done
  have h6 := open_len hk
  (try (simp (disch := first | omega | (simp <;> omega) | fail) only [push_cast, ↓reduceIte, Nat.reduceEqDiff, Nat.reduceAdd, Nat.reduceMul, Nat.reduceSub, Nat.reduceLT, Int.reduceToNat]))
  refine (c_spec_l1Split (beforeT s) (by omega)).call ?_
  have hnl := splitL_nlen 32 (beforeT s)
  have hne : 0 < (splitL 32 (beforeT s)).length := List.length_pos_iff.2 (splitL_ne 32 (beforeT s))
  obtain ⟨L, hL⟩ : ∃ L, L = splitL 32 (beforeT s) := ⟨_, rfl⟩
  have hlt : ltD s = if L.getD 0 [] = trW ∧ okKeys (L.drop 1) = true then some (L.drop 1) else none := by
    unfold ltD
    rw [← hL, hk]
    simp only [true_and]
  rw [← hL] at hnl hne ⊢
  clear hL
  have hlL : lS (some L) = L := rfl
  have hlLl : (lS (some L)).length = L.length := rfl
  have hg0 : (L.map AV.str)[0]? = some (.str (L.getD 0 [])) := get_S hne
  have hs1 : slcA 1 (some (.int .i64 1)) none (eS (some L)) = some (eS (some (L.drop 1))) := slc_eS_lo (by omega) (by rw [hlLl]; omega)
  by_cases hw0 : L.getD 0 [] = trW
  · have hw1 : (L.getD 0 [] = [116, 114, 105, 101]) = True := eq_true hw0
    have hAK := c_spec_biKeys (some (L.drop 1))
    have hlD : lS (some (L.drop 1)) = L.drop 1 := rfl
    rw [hlD] at hAK
    cases hok2 : okKeys (L.drop 1)
    · have hl : ltD s = none := by rw [hlt, hok2, if_neg (by simp)]
      rw [hok2] at hAK
      (try (simp (disch := first | omega | (simp <;> omega) | fail) only [push_cast, ↓reduceIte, Nat.reduceEqDiff, Nat.reduceAdd, Nat.reduceMul, Nat.reduceSub, Nat.reduceLT, Int.reduceToNat, hlL, hlLl, hg0, hw0, trW, hs1]))
      refine hAK.call ?_
      (try (simp (disch := first | omega | (simp <;> omega) | fail) only [push_cast, ↓reduceIte, Nat.reduceEqDiff, Nat.reduceAdd, Nat.reduceMul, Nat.reduceSub, Nat.reduceLT, Int.reduceToNat, hb0, hpm, hw]))
      all_goals (try exact hnone hl)
      done
    · have hl : ltD s = some (L.drop 1) := by rw [hlt, hok2, if_pos ⟨hw0, rfl⟩]
      have hv := lt_some hl
      rw [hok2] at hAK
      have hT := (c_spec_trOf_o (some (L.drop 1)) hok2).fn
      rw [hlD] at hT
      rw [hv]
      clear hv hnone hl hlt
      have hfin : ∀ hh : H, Vw hh h.length (.tup [eTr (tK (L.drop 1)), .bool true]) (.tup [eTr (tK (L.drop 1)), .bool true]) := fun hh => .free (free_tup (free_cons_ free_eTr (free_cons_ free_bool free_nil_)))
      generalize tK (L.drop 1) = T at *
      obtain ⟨⟨ts, tw⟩, ⟨us, uw⟩, tl⟩ := T
      (try (simp (disch := first | omega | (simp <;> omega) | fail) only [push_cast, ↓reduceIte, Nat.reduceEqDiff, Nat.reduceAdd, Nat.reduceMul, Nat.reduceSub, Nat.reduceLT, Int.reduceToNat, hlL, hlLl, hg0, hw0, trW, hs1]))
      refine hAK.call ?_
      (try (simp (disch := first | omega | (simp <;> omega) | fail) only [push_cast, ↓reduceIte, Nat.reduceEqDiff, Nat.reduceAdd, Nat.reduceMul, Nat.reduceSub, Nat.reduceLT, Int.reduceToNat, hs1]))
      refine hT.call ?_
      (try (simp (disch := first | omega | (simp <;> omega) | fail) only [push_cast, ↓reduceIte, Nat.reduceEqDiff, Nat.reduceAdd, Nat.reduceMul, Nat.reduceSub, Nat.reduceLT, Int.reduceToNat, hb0, hpm, hw]))
      all_goals (try exact hfin _)
      done
  · have hl : ltD s = none := by rw [hlt, if_neg (fun h5 => hw0 h5.1)]
    have hw1 : (L.getD 0 [] = [116, 114, 105, 101]) = False := eq_false hw0
    (try (simp (disch := first | omega | (simp <;> omega) | fail) only [push_cast, ↓reduceIte, Nat.reduceEqDiff, Nat.reduceAdd, Nat.reduceMul, Nat.reduceSub, Nat.reduceLT, Int.reduceToNat, hlL, hlLl, hg0, hw1, hb0, hpm, hw]))
    all_goals (try exact hnone hl)
    done

def marksI (k : Int) (n : Nat) : List Int := (List.range n).map fun i : Nat => k + (i : Int)
theorem marksI_len {k : Int} {n : Nat} : (marksI k n).length = n := by simp [marksI]
theorem marksI_get {k : Int} {n i : Nat} (hi : i < n) : (marksI k n).getD i 0 = k + (i : Int) := by simp [marksI, hi]
theorem marksI_succ {k : Int} {n : Nat} : marksI k (n + 1) = marksI k n ++ [k + (n : Int)] := by simp [marksI, List.range_succ]
def mkI (k : Int) (a : Option (List Int)) : Option (List Int) := a.map fun l => marksI k l.length
theorem lI_mkI {k : Int} {a : Option (List Int)} : lI (mkI k a) = marksI k (lI a).length := by cases a <;> rfl
theorem setL_next {α : Type} {f : α → AV} {m l : List α} {x : α} {i : Nat} (hm : m.length = i) (hi : i < l.length) : ((m ++ l.drop i).map f).set i (f x) = (m ++ [x] ++ l.drop (i + 1)).map f := by
  subst hm
  rw [List.drop_eq_getElem_cons hi]
  simp only [List.map_append, List.map_cons, List.map_nil, List.append_assoc, List.cons_append, List.nil_append]
  have := set_last (p := m.map f) (r := (l.drop (m.length + 1)).map f) (x := f l[m.length]) (y := f x)
  rw [List.length_map] at this
  exact this

theorem c_laws_markIntS (v : AV) (a : Option (List Int)) (G : Nat → Prop) (k : Int) (h : H) (hs : Ow h [v] [eI a] G) (hk : 0 ≤ k) (hk2 : k + (lI a).length ≤ 100000000) :
    Call Tryz.prog 50 [v, .int .i64 k] h G (fun x h' => x = .int .i64 (k + (lI a).length) ∧ Kp G h h' ∧ Ow h' [v] [eI (mkI k a)] G) := by
  cases a with
  | none =>
    have hv : v = .nils := hs.atomOf rfl
    subst hv
    refine enter (by kernel_rfl) e50 (by kernel_rfl) rfl fun hok => ?_
    simp only [r50, initEnv_2]
    (try (simp (disch := first | omega | (simp <;> omega) | fail) only [push_cast, ↓reduceIte, Nat.reduceEqDiff, Nat.reduceAdd, Nat.reduceMul, Nat.reduceSub, Nat.reduceLT, Int.reduceToNat]))
    refine T_for 0 (fun i e h' => Pins e [(0, .nils), (1, .int .i64 k), (5, .int .i64 0)] ∧ h' = h) ?_ ?_
    · (try (simp (disch := first | omega | (simp <;> omega) | fail) only [push_cast, ↓reduceIte, Nat.reduceEqDiff, Nat.reduceAdd, Nat.reduceMul, Nat.reduceSub, Nat.reduceLT, Int.reduceToNat]))
    rintro i e h' hi ⟨hp, rfl⟩
    refine T_pins hp fun e => ?_
    (try (simp (disch := first | omega | (simp <;> omega) | fail) only [push_cast, ↓reduceIte, Nat.reduceEqDiff, Nat.reduceAdd, Nat.reduceMul, Nat.reduceSub, Nat.reduceLT, Int.reduceToNat]))
    all_goals (try exact ⟨by simp [lI], Kp.refl, hs⟩)
  | some l =>
    obtain ⟨b, cs, F, rfl, hc, hcl, hb, hF, hin, hre⟩ := Ow.open_ (show Ow h [v] [.ro 1 (l.map (.int .i64)) l.length] G from hs)
    have hl0 : lI (some l) = l := rfl
    rw [hl0] at hk2 ⊢
    refine enter (by kernel_rfl) e50 (by kernel_rfl) rfl fun hok => ?_
    simp only [r50, initEnv_2]
    (try (simp (disch := first | omega | (simp <;> omega) | fail) only [push_cast, ↓reduceIte, Nat.reduceEqDiff, Nat.reduceAdd, Nat.reduceMul, Nat.reduceSub, Nat.reduceLT, Int.reduceToNat]))
    refine T_for l.length (fun i e h' => Pins e [(0, .sl b 0 1 l.length l.length), (1, .int .i64 (k + i)), (5, .int .i64 i)] ∧ Kp G h h' ∧ h'.cells b = some ((marksI k i ++ l.drop i).map (.int .i64))) ?_ ?_
    · have hcs : cs = l.map (.int .i64) := by
        refine List.ext_getElem? fun i => ?_
        by_cases hi : i < cs.length
        · have hi2 : i < (l.map (AV.int .i64)).length := by rw [hin.len]; exact hi
          obtain ⟨F2, _, h2, _⟩ := hin.focus (List.getElem?_eq_getElem hi) (List.getElem?_eq_getElem hi2)
          rw [List.getElem?_eq_getElem hi, List.getElem?_eq_getElem hi2]
          exact congrArg some (h2.atomOf (by simp [atom]))
        · rw [List.getElem?_eq_none (by omega), List.getElem?_eq_none (by rw [hin.len]; omega)]
      (try (simp (disch := first | omega | (simp <;> omega) | fail) only [push_cast, ↓reduceIte, Nat.reduceEqDiff, Nat.reduceAdd, Nat.reduceMul, Nat.reduceSub, Nat.reduceLT, Int.reduceToNat]))
      all_goals (try exact ⟨Kp.refl, by rw [hc, hcs]; simp [marksI]⟩)
      all_goals (try exact ⟨by simp, Kp.refl, by rw [hc, hcs]; simp [marksI]⟩)
    rintro i e h' hi ⟨hp, hkp, hc2⟩
    refine T_pins hp fun e => ?_
    have hpm : G b = True := by simp [hb]
    (try (simp (disch := first | omega | (simp <;> omega) | fail) only [push_cast, ↓reduceIte, Nat.reduceEqDiff, Nat.reduceAdd, Nat.reduceMul, Nat.reduceSub, Nat.reduceLT, Int.reduceToNat]))
    first | refine goC_split (fun hc => ?_) (fun hc => ?_) | refine cnd_split (fun hc => ?_) (fun hc => ?_)
    · (try (simp only [decide_eq_true_eq, decide_eq_false_iff_not, Bool.not_eq_true', Bool.not_eq_false', Bool.and_eq_true, Bool.or_eq_true, Int.not_lt, Int.not_le] at hc)); (try (simp (disch := first | omega | (simp <;> omega) | fail) only [push_cast, ↓reduceIte, Nat.reduceEqDiff, Nat.reduceAdd, Nat.reduceMul, Nat.reduceSub, Nat.reduceLT, Int.reduceToNat]))
      have hi2 : i < l.length := by omega
      have hset := setL_next (f := AV.int .i64) (m := marksI k i) (x := k + (i : Int)) marksI_len hi2
      rw [← marksI_succ] at hset
      have hln : ((marksI k i ++ l.drop i).map (AV.int .i64)).length = l.length := by
        simp [marksI_len]
        omega
      have hos : over ((marksI k i ++ l.drop i).map (AV.int .i64)) i [.int .i64 (k + (i : Int))] = (marksI k (i + 1) ++ l.drop (i + 1)).map (.int .i64) := by
        rw [over_set (by omega), hset]
      (try (simp (disch := first | omega | (simp <;> omega) | fail) only [push_cast, ↓reduceIte, Nat.reduceEqDiff, Nat.reduceAdd, Nat.reduceMul, Nat.reduceSub, Nat.reduceLT, Int.reduceToNat, hc2, hpm, hln, hos]))
      all_goals (try (refine ⟨by omega, ?_⟩))
      all_goals (try exact ⟨hkp.wr hb _, cells_wr2 (cells_lt hc2)⟩)
    · (try (simp only [decide_eq_true_eq, decide_eq_false_iff_not, Bool.not_eq_true', Bool.not_eq_false', Bool.and_eq_true, Bool.or_eq_true, Int.not_lt, Int.not_le] at hc)); (try (simp (disch := first | omega | (simp <;> omega) | fail) only [push_cast, ↓reduceIte, Nat.reduceEqDiff, Nat.reduceAdd, Nat.reduceMul, Nat.reduceSub, Nat.reduceLT, Int.reduceToNat]))
      have hie : i = l.length := by omega
      subst hie
      rw [List.drop_length, List.append_nil] at hc2
      have hfin : Ow h' [.sl b 0 1 l.length l.length] [eI (mkI k (some l))] G := by
        have := ow_map (h := h') (f := AV.int .i64) (G := G) (fun _ => rfl) hc2 (marksI_len) hb
        unfold mkI eI
        simpa [marksI_len] using this
      first | exact ⟨rfl, hkp, hfin⟩ | exact ⟨hkp, hfin⟩

def mkBt (k : Int) (b : Bt) : Bt := ⟨b.size, mkI k b.words⟩
theorem c_laws_markBits (v : AV) (b : Bt) (G : Nat → Prop) (k : Int) (h : H) (hs : Ow h [v] [eB b] G) (hG : ∀ c, G c → c < h.length) (hk : 0 ≤ k) (hk2 : k + (lI b.words).length ≤ 100000000) :
    Call Tryz.prog 27 [v, .int .i64 k] h G (fun x h' => x = .int .i64 (k + (lI b.words).length) ∧ Kq G h h' ∧ Ow h' [v] [eB (mkBt k b)] G) := by
  obtain ⟨w, F, rfl, f1, f2, f3, f4, f5⟩ := ow_bt hs
  refine enter (by kernel_rfl) e27 (by kernel_rfl) rfl fun hok => ?_
  simp only [r27, initEnv_2]
  (try (simp (disch := first | omega | (simp <;> omega) | fail) only [push_cast, ↓reduceIte, Nat.reduceEqDiff, Nat.reduceAdd, Nat.reduceMul, Nat.reduceSub, Nat.reduceLT, Int.reduceToNat, f3, f4]))
  refine (c_laws_markIntS w b.words F k _ (f1.frame fun c hc => List.getElem?_append_left (hG c (f2 c hc))) hk hk2).mono (fun x h2 hx => ?_) (fun c hc hF => Or.inl (f2 c hF))
  obtain ⟨rfl, hkp, ho⟩ := hx
  have h1 := hkp.1
  have hkq : Kq G h h2 := ⟨by simp at h1; omega, fun c hc hn => (hkp.2 c fun hf => hn (f2 c hf)).trans (List.getElem?_append_left hc)⟩
  (try (simp (disch := first | omega | (simp <;> omega) | fail) only [push_cast, ↓reduceIte, Nat.reduceEqDiff, Nat.reduceAdd, Nat.reduceMul, Nat.reduceSub, Nat.reduceLT, Int.reduceToNat]))
  exact ⟨hkq, f5 h2 _ ho⟩

def cpTr (t : Tr) : Tr := ⟨cpB t.sh, cpB t.en, t.lab⟩

def mkTr (k : Int) (t : Tr) : Tr := ⟨mkBt k t.sh, mkBt (k + (lI t.sh.words).length) t.en, t.lab⟩
theorem ow_inT {h : H} {n : Int} {x : AV} {b : Bt} {F : Nat → Prop} (ho : Ow h [.agg [.int .i64 n, x]] [eB b] F) : Ow h [x] [eI b.words] F := by
  obtain ⟨cs, he, h1⟩ := Ow.openAgg (show Ow h [.agg [.int .i64 n, x]] [.agg (cB b)] F from ho)
  injection he with he
  subst he
  obtain ⟨_, F2, _, f2, _, f3⟩ := h1.uncons
  exact f2.mono fun c hc => (f3 c hc).1
theorem c_laws_markTrie (v : AV) (s : Tr) (G : Nat → Prop) (k : Int) (h : H) (hs : Ow h [v] [eTr s] G) (hG : ∀ c, G c → c < h.length) (hk : 0 ≤ k) (hk2 : k + (lI s.sh.words).length + (lI s.en.words).length ≤ 100000000) :
    Call Tryz.prog 9 [v, .int .i64 k] h G (fun x h' => x = .int .i64 (k + (lI s.sh.words).length + (lI s.en.words).length) ∧ Kq G h h' ∧ Ow h' [v] [eTr (mkTr k s)] G) := by
  obtain ⟨x5, x7, F5, F7, rfl, p5, p7, u5, u7, hre⟩ := ow_trE hs
  obtain ⟨c1, c2⟩ := ow_eI p5
  obtain ⟨c3, c4⟩ := ow_eI p7
  refine enter (by kernel_rfl) e9 (by kernel_rfl) rfl fun hok => ?_
  simp only [r9, initEnv_2]
  have g5 : ∀ l : H, Ow (h ++ l) [.agg [.int .i64 s.sh.size, x5]] [eB s.sh] F5 := fun l => Ow.aggOf (ts := cB s.sh) (.atom rfl (p5.frame fun c hc => List.getElem?_append_left (hG c (u5 c hc))))
  (try (simp (disch := first | omega | (simp <;> omega) | fail) only [push_cast, ↓reduceIte, Nat.reduceEqDiff, Nat.reduceAdd, Nat.reduceMul, Nat.reduceSub, Nat.reduceLT, Int.reduceToNat, c1, c2, c3, c4]))
  refine (c_laws_markBits _ s.sh F5 k _ (g5 _) (fun c hc => by have := hG c (u5 c hc); simp; omega) hk (by omega)).mono (fun x h2 hx => ?_) (fun c hc hF => Or.inl (u5 c hF))
  obtain ⟨rfl, hk1, ho5⟩ := hx
  have hl2 := hk1.1
  simp only [List.length_append, List.length_cons, List.length_nil] at hl2
  have hb2 : H.cells h2 h.length = some [.int .i64 s.sh.size, x5, .int .i64 s.en.size, x7, .str s.lab] := cells_keep (hk1.2 _ (by simp) fun hc => by have := hG _ (u5 _ hc); omega) (by rw [cells_h0]; rfl)
  have p72 : Ow h2 [x7] [eI s.en.words] F7 := p7.frame fun c hc => (hk1.2 c (by have := hG c (u7 c hc).1; simp; omega) (u7 c hc).2).trans (List.getElem?_append_left (hG c (u7 c hc).1))
  have g7 : Ow h2 [.agg [.int .i64 s.en.size, x7]] [eB s.en] F7 := Ow.aggOf (ts := cB s.en) (.atom rfl p72)
  (try (simp (disch := first | omega | (simp <;> omega) | fail) only [push_cast, ↓reduceIte, Nat.reduceEqDiff, Nat.reduceAdd, Nat.reduceMul, Nat.reduceSub, Nat.reduceLT, Int.reduceToNat, hb2, c1, c2, c3, c4]))
  refine (c_laws_markBits _ s.en F7 (k + (lI s.sh.words).length) _ g7 (fun c hc => by have := hG c (u7 c hc).1; omega) (by omega) (by omega)).mono (fun x h3 hx => ?_) (fun c hc hF => Or.inl (u7 c hF).1)
  obtain ⟨rfl, hk3, ho7⟩ := hx
  have hl3 := hk3.1
  have p53 : Ow h3 [x5] [eI (mkBt k s.sh).words] F5 := (ow_inT ho5).frame fun c hc => hk3.2 c (by have := hG c (u5 c hc); omega) fun h5 => (u7 c h5).2 hc
  have hfin := hre h3 _ _ p53 (ow_inT ho7)
  have hkq : Kq G h h3 := ⟨by omega, fun c hc hn => (hk3.2 c (by omega) fun h5 => hn (u7 c h5).1).trans ((hk1.2 c (by simp; omega) fun h5 => hn (u5 c h5)).trans (List.getElem?_append_left hc))⟩
  (try (simp (disch := first | omega | (simp <;> omega) | fail) only [push_cast, ↓reduceIte, Nat.reduceEqDiff, Nat.reduceAdd, Nat.reduceMul, Nat.reduceSub, Nat.reduceLT, Int.reduceToNat]))
  all_goals (try exact ⟨hkq, hfin⟩)

theorem c_laws_heldIntS (a : Option (List Int)) (k : Int) (n : Nat) (ha : lI a = marksI k n) (hk : 0 ≤ k) (hk2 : k + n ≤ 100000000) : Fn Tryz.prog 51 [eI a, .int .i64 k] (· = .int .i64 (k + n)) := by
  refine Fn.of free_int fun h => ?_
  refine enter (by kernel_rfl) e51 (by kernel_rfl) rfl fun hok => ?_
  simp only [r51, initEnv_2]
  have hln : (lI a).length = n := by rw [ha, marksI_len]
  (try (simp (disch := first | omega | (simp <;> omega) | fail) only [push_cast, ↓reduceIte, Nat.reduceEqDiff, Nat.reduceAdd, Nat.reduceMul, Nat.reduceSub, Nat.reduceLT, Int.reduceToNat]))
  refine T_for n (fun i e h' => Pins e [(0, eI a), (1, .int .i64 (k + i)), (5, .int .i64 i)] ∧ h' = h) ?_ ?_
  · (try (simp (disch := first | omega | (simp <;> omega) | fail) only [push_cast, ↓reduceIte, Nat.reduceEqDiff, Nat.reduceAdd, Nat.reduceMul, Nat.reduceSub, Nat.reduceLT, Int.reduceToNat]))
    all_goals (try simp)
  rintro i e h' hi ⟨hp, rfl⟩
  refine T_pins hp fun e => ?_
  (try (simp (disch := first | omega | (simp <;> omega) | fail) only [push_cast, ↓reduceIte, Nat.reduceEqDiff, Nat.reduceAdd, Nat.reduceMul, Nat.reduceSub, Nat.reduceLT, Int.reduceToNat, hln]))
  first | refine goC_split (fun hc => ?_) (fun hc => ?_) | refine cnd_split (fun hc => ?_) (fun hc => ?_)
  · (try (simp only [decide_eq_true_eq, decide_eq_false_iff_not, Bool.not_eq_true', Bool.not_eq_false', Bool.and_eq_true, Bool.or_eq_true, Int.not_lt, Int.not_le] at hc)); (try (simp (disch := first | omega | (simp <;> omega) | fail) only [push_cast, ↓reduceIte, Nat.reduceEqDiff, Nat.reduceAdd, Nat.reduceMul, Nat.reduceSub, Nat.reduceLT, Int.reduceToNat]))
    have hi2 : i < (lI a).length := by omega
    have hg : (lI a).getD i 0 = k + (i : Int) := by rw [ha, marksI_get (by omega)]
    (try (simp (disch := first | omega | (simp <;> omega) | fail) only [push_cast, ↓reduceIte, Nat.reduceEqDiff, Nat.reduceAdd, Nat.reduceMul, Nat.reduceSub, Nat.reduceLT, Int.reduceToNat, hln, hg]))
    all_goals (try omega)
  · (try (simp only [decide_eq_true_eq, decide_eq_false_iff_not, Bool.not_eq_true', Bool.not_eq_false', Bool.and_eq_true, Bool.or_eq_true, Int.not_lt, Int.not_le] at hc)); (try (simp (disch := first | omega | (simp <;> omega) | fail) only [push_cast, ↓reduceIte, Nat.reduceEqDiff, Nat.reduceAdd, Nat.reduceMul, Nat.reduceSub, Nat.reduceLT, Int.reduceToNat]))

theorem c_laws_heldBits (b : Bt) (k : Int) (hk : 0 ≤ k) (hk2 : k + (lI b.words).length ≤ 100000000) : Fn Tryz.prog 28 [eB (mkBt k b), .int .i64 k] (· = .int .i64 (k + (lI b.words).length)) := by
  refine Fn.of free_int fun h => ?_
  refine enter (by kernel_rfl) e28 (by kernel_rfl) rfl fun hok => ?_
  simp only [r28, initEnv_2]
  have hw : lI (mkBt k b).words = marksI k (lI b.words).length := lI_mkI
  (try (simp (disch := first | omega | (simp <;> omega) | fail) only [push_cast, ↓reduceIte, Nat.reduceEqDiff, Nat.reduceAdd, Nat.reduceMul, Nat.reduceSub, Nat.reduceLT, Int.reduceToNat]))
  refine (c_laws_heldIntS (mkBt k b).words k (lI b.words).length hw hk hk2).call ?_
  (try (simp (disch := first | omega | (simp <;> omega) | fail) only [push_cast, ↓reduceIte, Nat.reduceEqDiff, Nat.reduceAdd, Nat.reduceMul, Nat.reduceSub, Nat.reduceLT, Int.reduceToNat]))

theorem c_laws_heldTrie (s : Tr) (k : Int) (hk : 0 ≤ k) (hk2 : k + (lI s.sh.words).length + (lI s.en.words).length ≤ 100000000) : Fn Tryz.prog 10 [eTr (mkTr k s), .int .i64 k] (· = .int .i64 (k + (lI s.sh.words).length + (lI s.en.words).length)) := by
  refine Fn.of free_int fun h => ?_
  refine enter (by kernel_rfl) e10 (by kernel_rfl) rfl fun hok => ?_
  simp only [r10, initEnv_2]
  have h1 := c_laws_heldBits s.sh k hk (by omega)
  have h2 := c_laws_heldBits s.en (k + (lI s.sh.words).length) (by omega) (by omega)
  unfold mkTr
  generalize mkBt k s.sh = a at *
  generalize mkBt (k + (lI s.sh.words).length) s.en = b at *
  obtain ⟨a1, a2⟩ := a
  obtain ⟨b1, b2⟩ := b
  (try (simp (disch := first | omega | (simp <;> omega) | fail) only [push_cast, ↓reduceIte, Nat.reduceEqDiff, Nat.reduceAdd, Nat.reduceMul, Nat.reduceSub, Nat.reduceLT, Int.reduceToNat]))
  refine h1.call ?_
  (try (simp (disch := first | omega | (simp <;> omega) | fail) only [push_cast, ↓reduceIte, Nat.reduceEqDiff, Nat.reduceAdd, Nat.reduceMul, Nat.reduceSub, Nat.reduceLT, Int.reduceToNat]))
  refine h2.call ?_
  (try (simp (disch := first | omega | (simp <;> omega) | fail) only [push_cast, ↓reduceIte, Nat.reduceEqDiff, Nat.reduceAdd, Nat.reduceMul, Nat.reduceSub, Nat.reduceLT, Int.reduceToNat]))

end Go.Proofs.YtakjemikampncaaGreatDoor.M
