/-
  What the functions return.
-/
import Derived.Test.YtoappkfndnggnaaDoorFp
import Derived.Test.YtoappkfndnggnaaDoorShelf
import Derived.Test.YtoappkfndnggnaaDoorCb
namespace Go.Proofs.YtoappkfndnggnaaDoor.M
open Go Go.RowKit
set_option linter.unusedVariables false
set_option linter.unusedSimpArgs false
set_option maxRecDepth 4000

/-- The pieces so far. -/
def SpI (s : Str) (i : Nat) (L : List Str) (fr : Nat) : Prop := fr ≤ i ∧ splitL 32 s = L ++ splitL 32 (s.drop fr) ∧ ∀ x ∈ (s.drop fr).take (i - fr), x ≠ 32
theorem SpI.zero {s : Str} : SpI s 0 [] 0 := ⟨Nat.le_refl _, by simp, by simp⟩
theorem take_next {s : Str} {i fr : Nat} (hi : i < s.length) (hf : fr ≤ i) : (s.drop fr).take (i + 1 - fr) = (s.drop fr).take (i - fr) ++ [s.getD i 0] := by
  rw [show i + 1 - fr = i - fr + 1 by omega, List.take_add_one]
  congr 1
  simp [show fr + (i - fr) = i by omega, hi]
theorem SpI.miss {s : Str} {i fr : Nat} {L : List Str} (hs : SpI s i L fr) (hi : i < s.length) (hc : s.getD i 0 ≠ 32) : SpI s (i + 1) L fr := by
  obtain ⟨h1, h2, h3⟩ := hs
  refine ⟨by omega, h2, fun x hx => ?_⟩
  rw [take_next hi h1] at hx
  rcases List.mem_append.1 hx with hx | hx
  · exact h3 x hx
  · simp at hx
    rw [hx]
    simpa using hc
theorem SpI.hit {s : Str} {i fr : Nat} {L : List Str} (hs : SpI s i L fr) (hi : i < s.length) (hc : s.getD i 0 = 32) : SpI s (i + 1) (L ++ [(s.drop fr).take (i - fr)]) (i + 1) := by
  obtain ⟨h1, h2, h3⟩ := hs
  refine ⟨Nat.le_refl _, ?_, by simp⟩
  have hd : s.drop fr = (s.drop fr).take (i - fr) ++ 32 :: s.drop (i + 1) := by
    conv => lhs; rw [← List.take_append_drop (i - fr) (s.drop fr)]
    congr 1
    rw [List.drop_drop, show fr + (i - fr) = i by omega, List.drop_eq_getElem_cons hi]
    congr 1
    simpa [hi] using hc
  rw [h2]
  conv => lhs; rw [hd, splitL_app 32 _ _ h3]
  simp
theorem SpI.fin {s : Str} {fr : Nat} {L : List Str} (hs : SpI s s.length L fr) : splitL 32 s = L ++ [s.drop fr] := by
  obtain ⟨h1, h2, h3⟩ := hs
  rw [h2]
  congr 1
  refine splitL_no 32 _ fun x hx => h3 x ?_
  rwa [List.take_of_length_le (by simp)]

theorem c_spec_l1Split (s : Str) (hl : s.length ≤ 1000000) : Fn Tryd.prog 50 [.str s, .int .u8 32] (· = eS (some (splitL 32 s))) := by
  refine Fn.froze fun h => ?_
  refine enter (by kernel_rfl) e50 (by kernel_rfl) rfl fun hok => ?_
  simp only [r50, initEnv_2]
  have hnl := splitL_nlen 32 s
  (try (simp (disch := first | omega | (simp <;> omega) | fail) only [push_cast, ↓reduceIte, Nat.reduceEqDiff, Nat.reduceAdd, Nat.reduceMul, Nat.reduceSub, Nat.reduceLT, Int.reduceToNat]))
  refine T_for s.length (fun i e h' => ∃ (v : AV) (B : List Nat) (L : List Str) (fr : Nat), Pins e [(0, .str s), (1, .int .u8 32), (5, v), (6, .int .i64 fr), (7, .int .i64 i)] ∧ S1 h' 1 v L.length (L.map .str) B ∧ (∀ k ∈ B, h.length ≤ k) ∧ (SpI s i L fr ∧ L.length ≤ i ∧ h.length ≤ h'.length)) ?_ ?_
  · refine ⟨.nils, [], [], 0, ?_⟩
    (try (simp (disch := first | omega | (simp <;> omega) | fail) only [push_cast, ↓reduceIte, Nat.reduceEqDiff, Nat.reduceAdd, Nat.reduceMul, Nat.reduceSub, Nat.reduceLT, Int.reduceToNat]))
    all_goals (try exact ⟨S1.nil, by simp, SpI.zero, by omega⟩)
    all_goals (try exact ⟨S1.nil, by simp, SpI.zero, by simp⟩)
    all_goals (try exact ⟨S1.nil, by simp, SpI.zero⟩)
  rintro i e h' hi ⟨v, B, L, fr, hp, hs, hB, hsp, hLi, hlt⟩
  refine T_pins hp fun e => ?_
  have hfr := hsp.1
  have hgo : ∀ (p : Str) (Q : AV → H → Prop), (∀ v' h'' B', S1 h'' 1 v' (L ++ [p]).length ((L ++ [p]).map .str) B' → (∀ k ∈ B', h.length ≤ k) → h.length ≤ h''.length → Q v' h'') → apA (fun c => Nowhere c ∨ h.length ≤ c) (h' ++ [some (.cells [.str p])]) Q 1 16 (some ([.str p], 1)) v := fun p Q hQ => by
    have hs2 := hs.frame (h' := h' ++ [some (.cells [.str p])]) fun c hc => List.getElem?_append_left (hs.lt c hc)
    refine hs2.app (fun c hc => Or.inr (hB c hc)) rfl (by decide) (by omega) fun v' h'' B' q1 q2 q3 q4 => ?_
    simp only [List.length_append, List.length_cons, List.length_nil] at q2 q4
    refine hQ v' h'' B' ?_ (fun k hk => ?_) (by omega)
    · simpa using q1
    · rcases q4 k hk with h5 | h5
      · exact hB k h5
      · omega
  (try (simp (disch := first | omega | (simp <;> omega) | fail) only [push_cast, ↓reduceIte, Nat.reduceEqDiff, Nat.reduceAdd, Nat.reduceMul, Nat.reduceSub, Nat.reduceLT, Int.reduceToNat]))
  first | refine goC_split (fun hc => ?_) (fun hc => ?_) | refine cnd_split (fun hc => ?_) (fun hc => ?_)
  · (try (simp only [decide_eq_true_eq, decide_eq_false_iff_not, Bool.not_eq_true', Bool.not_eq_false', Bool.and_eq_true, Bool.or_eq_true, Int.not_lt, Int.not_le] at hc)); (try (simp (disch := first | omega | (simp <;> omega) | fail) only [push_cast, ↓reduceIte, Nat.reduceEqDiff, Nat.reduceAdd, Nat.reduceMul, Nat.reduceSub, Nat.reduceLT, Int.reduceToNat]))
    have hi2 : i < s.length := by omega
    by_cases hch : ((s.getD i 0).toNat : Int) = 32
    · have hc2 : s.getD i 0 = 32 := UInt8.toNat_inj.1 (by have : (32 : UInt8).toNat = 32 := rfl; omega)
      have hnx := hsp.hit hi2 hc2
      (try (simp (disch := first | omega | (simp <;> omega) | fail) only [push_cast, ↓reduceIte, Nat.reduceEqDiff, Nat.reduceAdd, Nat.reduceMul, Nat.reduceSub, Nat.reduceLT, Int.reduceToNat, hch]))
      refine hgo _ _ fun v' h'' B' q1 q2 q3 => ?_
      (try (simp (disch := first | omega | (simp <;> omega) | fail) only [push_cast, ↓reduceIte, Nat.reduceEqDiff, Nat.reduceAdd, Nat.reduceMul, Nat.reduceSub, Nat.reduceLT, Int.reduceToNat]))
      all_goals (try exact ⟨_, B', _, i + 1, ⟨rfl, by omega⟩, q1, q2, hnx, by simp; omega, q3⟩)
      all_goals (try exact ⟨_, B', _, i + 1, ⟨rfl, by omega⟩, q1, q2, hnx, by simp; omega⟩)
    · have hc2 : s.getD i 0 ≠ 32 := fun he => hch (by rw [he]; rfl)
      have hnx := hsp.miss hi2 hc2
      (try (simp (disch := first | omega | (simp <;> omega) | fail) only [push_cast, ↓reduceIte, Nat.reduceEqDiff, Nat.reduceAdd, Nat.reduceMul, Nat.reduceSub, Nat.reduceLT, Int.reduceToNat, hch]))
      all_goals (try exact ⟨_, B, L, fr, ⟨rfl, rfl⟩, hs, hB, hnx, by omega, hlt⟩)
      all_goals (try exact ⟨_, B, L, fr, ⟨rfl, rfl⟩, hs, hB, hnx, by omega⟩)
  · (try (simp only [decide_eq_true_eq, decide_eq_false_iff_not, Bool.not_eq_true', Bool.not_eq_false', Bool.and_eq_true, Bool.or_eq_true, Int.not_lt, Int.not_le] at hc)); (try (simp (disch := first | omega | (simp <;> omega) | fail) only [push_cast, ↓reduceIte, Nat.reduceEqDiff, Nat.reduceAdd, Nat.reduceMul, Nat.reduceSub, Nat.reduceLT, Int.reduceToNat]))
    have hie : i = s.length := by omega
    subst hie
    have hfin := hsp.fin
    have hdr : List.take (s.length - fr) (List.drop fr s) = s.drop fr := List.take_of_length_le (by simp)
    (try (simp (disch := first | omega | (simp <;> omega) | fail) only [push_cast, ↓reduceIte, Nat.reduceEqDiff, Nat.reduceAdd, Nat.reduceMul, Nat.reduceSub, Nat.reduceLT, Int.reduceToNat, hdr]))
    refine hgo _ _ fun v' h'' B' q1 hB' q3 => ?_
    rw [← hfin] at q1
    have hvw : Vw h'' h.length v' (eS (some (splitL 32 s))) := by
      rcases q1.2 with ⟨_, h0, _⟩ | ⟨b, rfl, hb, hcb⟩
      · exact absurd (List.length_eq_zero_iff.1 h0) (splitL_ne 32 s)
      · exact vw_all (hB' b (by rw [hb]; simp)) hcb (by simp) (one_map fun _ => rfl) (free_map_ fun _ => free_str)
    (try (simp (disch := first | omega | (simp <;> omega) | fail) only [push_cast, ↓reduceIte, Nat.reduceEqDiff, Nat.reduceAdd, Nat.reduceMul, Nat.reduceSub, Nat.reduceLT, Int.reduceToNat]))
    all_goals (try exact hvw)

def decV (l : Str) : Nat := l.foldl (fun a c => 10 * a + (c.toNat - 48)) 0
theorem decV_dec : ∀ n : Nat, decV (Lib.decDigits n) = n := fun n => by
  induction n using Nat.strongRecOn with
  | _ n ih =>
    rw [dec_rec]
    by_cases hn : n < 10
    · rw [if_pos hn]
      simp [decV]
      omega
    · rw [if_neg hn]
      unfold decV at ih ⊢
      rw [List.foldl_append, ih (n / 10) (by omega)]
      simp
      omega

def digC (c : UInt8) : Bool := decide (48 ≤ (c.toNat : Int)) && decide ((c.toNat : Int) ≤ 57)
def rdOk (a : Str) : Bool := (decide (1 ≤ (a.length : Int)) && decide ((a.length : Int) ≤ 6)) && !(decide (((a.getD 0 0).toNat : Int) = 48) && decide (1 < (a.length : Int)))
/-- What is read. -/
def rdN (a : Str) : Int := if rdOk a && a.all digC then (decV a : Int) else -1
theorem digC_is {c : UInt8} : digC c = true ↔ 48 ≤ c.toNat ∧ c.toNat ≤ 57 := by
  simp only [digC, Bool.and_eq_true, decide_eq_true_eq]
  omega
theorem decV_app {b : Str} {c : UInt8} : decV (b ++ [c]) = 10 * decV b + (c.toNat - 48) := by
  unfold decV
  rw [List.foldl_append]
  rfl
theorem dec_back : ∀ (n : Nat) (a : Str), a.length = n + 1 → (∀ c ∈ a, 48 ≤ c.toNat ∧ c.toNat ≤ 57) → ¬ ((a.getD 0 0).toNat = 48 ∧ 1 < a.length) → Lib.decDigits (decV a) = a
  | 0, a, hl, hd, _ => by
    obtain ⟨c, rfl⟩ : ∃ c, a = [c] := List.length_eq_one_iff.1 hl
    have h := hd c (by simp)
    have hv : decV [c] = c.toNat - 48 := by simp [decV]
    rw [hv, dec_rec, if_pos (by omega)]
    congr 1
    apply UInt8.toNat_inj.1
    simp
    omega
  | n + 1, a, hl, hd, hh => by
    have hne : a ≠ [] := fun h => by rw [h] at hl; simp at hl
    obtain ⟨b, c, rfl⟩ : ∃ b c, a = b ++ [c] := ⟨a.dropLast, a.getLast hne, (List.dropLast_concat_getLast hne).symm⟩
    have hbl : b.length = n + 1 := by simpa using hl
    have h0 : (b ++ [c]).getD 0 0 = b.getD 0 0 := by
      simp only [List.getD_eq_getElem?_getD]
      rw [List.getElem?_append_left (by omega)]
    have hb0 : (b.getD 0 0).toNat ≠ 48 := fun h => hh ⟨by rw [h0]; exact h, by simp; omega⟩
    have ih := dec_back n b hbl (fun x hx => hd x (by simp [hx])) (fun h => hb0 h.1)
    have hc := hd c (by simp)
    have hpos : 1 ≤ decV b := by
      rcases Nat.eq_zero_or_pos (decV b) with h | h
      · rw [h, dec_rec, if_pos (by omega)] at ih
        rw [← ih] at hb0
        simp at hb0
      · exact h
    rw [decV_app, dec_rec, if_neg (by omega), show (10 * decV b + (c.toNat - 48)) / 10 = decV b by omega, ih]
    congr 2
    apply UInt8.toNat_inj.1
    simp
    omega
theorem dec_lenle : ∀ (k n : Nat), n < 10 ^ (k + 1) → (Lib.decDigits n).length ≤ k + 1
  | 0, n, h => by
    rw [dec_rec, if_pos (by simpa using h)]
    simp
  | k + 1, n, h => by
    rw [dec_rec]
    split
    · simp
    · have := dec_lenle k (n / 10) (by rw [Nat.pow_succ] at h; omega)
      simp
      omega
theorem dec_ne {n : Nat} : Lib.decDigits n ≠ [] := by
  rw [dec_rec]
  split <;> simp
theorem dec_head {n : Nat} (h : 1 ≤ n) : ((Lib.decDigits n).getD 0 0).toNat ≠ 48 := by
  induction n using Nat.strongRecOn with
  | _ n ih =>
    rw [dec_rec]
    split
    · simp
      omega
    · have hl := List.length_pos_iff.2 (dec_ne (n := n / 10))
      have := ih (n / 10) (by omega) (by omega)
      simp only [List.getD_eq_getElem?_getD] at this ⊢
      rw [List.getElem?_append_left hl]
      exact this
theorem rd_dec {n : Nat} (h : n < 1000000) : rdN (Lib.decDigits n) = n := by
  have h1 := dec_lenle 5 n (by simpa using h)
  have h2 := List.length_pos_iff.2 (dec_ne (n := n))
  have hd : (Lib.decDigits n).all digC = true := List.all_eq_true.2 fun c hc => digC_is.2 (dec_plain n c hc)
  have hz : rdOk (Lib.decDigits n) = true := by
    unfold rdOk
    rcases Nat.eq_zero_or_pos n with h0 | h0
    · subst h0
      rw [show Lib.decDigits 0 = [48] by rw [dec_rec]; rfl]
      decide
    · have := dec_head h0
      simp only [Bool.and_eq_true, decide_eq_true_eq, Bool.not_eq_true', Bool.and_eq_false_iff, decide_eq_false_iff_not]
      omega
  unfold rdN
  rw [hz, hd, decV_dec]
  rfl
theorem rd_back {a : Str} {r : Int} (h : rdN a = r) (h0 : 0 ≤ r) : ∃ n : Nat, r = n ∧ n < 1000000 ∧ a = Lib.decDigits n := by
  unfold rdN at h
  cases hz : (rdOk a && a.all digC) with
  | false =>
    rw [hz] at h
    simp at h
    omega
  | true =>
    rw [hz] at h
    simp only [Bool.and_eq_true] at hz
    obtain ⟨h1, h2⟩ := hz
    simp only [rdOk, Bool.and_eq_true, decide_eq_true_eq, Bool.not_eq_true', Bool.and_eq_false_iff, decide_eq_false_iff_not] at h1
    have hd : ∀ c ∈ a, 48 ≤ c.toNat ∧ c.toNat ≤ 57 := fun c hc => digC_is.1 (List.all_eq_true.1 h2 c hc)
    have hb := dec_back (a.length - 1) a (by omega) hd (by omega)
    refine ⟨decV a, by rw [← h]; rfl, ?_, hb.symm⟩
    rcases Nat.lt_or_ge (decV a) 1000000 with hlt | hge
    · exact hlt
    · exfalso
      have hk : ∀ k n : Nat, 10 ^ k ≤ n → k + 1 ≤ (Lib.decDigits n).length := by
        intro k
        induction k with
        | zero => intro n _; exact List.length_pos_iff.2 dec_ne
        | succ k ih =>
          intro n hn
          rw [dec_rec, if_neg (by rw [Nat.pow_succ] at hn; have := Nat.pow_pos (n := k) (show 0 < 10 by decide); omega)]
          have := ih (n / 10) (by rw [Nat.pow_succ] at hn; omega)
          simp
          omega
      have := hk 6 (decV a) (by simpa using hge)
      rw [hb] at this
      omega
theorem decFrom_all : ∀ (l : Str) (acc : Nat), (∀ c ∈ l, 48 ≤ c.toNat ∧ c.toNat ≤ 57) → Lib.decFrom acc l = some (l.foldl (fun a c => 10 * a + (c.toNat - 48)) acc)
  | [], acc, _ => rfl
  | c :: l, acc, h => by
    have hc := h c (by simp)
    rw [Lib.decFrom, Lib.digitVal, if_pos hc, List.foldl_cons]
    simp only
    rw [decFrom_all l _ fun x hx => h x (List.mem_cons_of_mem _ hx), Nat.mul_comm]
theorem atoi_dec {n : Nat} (h : n < 1000000) : Lib.atoiAll (Lib.decDigits n) = .ok (n : Int) := by
  have h1 := dec_lenle 5 n (by simpa using h)
  rw [Lib.atoiAll_short _ (by omega)]
  have hv := decV_dec n
  have hp := dec_plain n
  have hne := dec_ne (n := n)
  cases hl : Lib.decDigits n with
  | nil => exact absurd hl hne
  | cons c r =>
    rw [hl] at hv hp
    have hc := hp c (by simp)
    have e1 : (c == 45) = false := by
      rw [beq_eq_false_iff_ne]
      rintro rfl
      simp at hc
    have e2 : (c == 43) = false := by
      rw [beq_eq_false_iff_ne]
      rintro rfl
      simp at hc
    have hd : Lib.decNat (c :: r) = some n := by
      unfold Lib.decNat
      rw [decFrom_all _ _ hp]
      unfold decV at hv
      rw [hv]
      rfl
    rw [Lib.atoi, e1, e2, hd]
    rfl

theorem digC_no {a : Str} {i : Nat} (hi : i < a.length) (hf : digC (a.getD i 0) = false) : a.all digC = false := by
  rw [List.all_eq_false]
  exact ⟨a.getD i 0, by simp [hi], by rw [hf]; simp⟩
theorem digC_take {a : Str} {i : Nat} (hi : i < a.length) : (a.take (i + 1)).all digC = ((a.take i).all digC && digC (a.getD i 0)) := by
  rw [List.take_add_one, List.all_append]
  simp [hi]
theorem decV_take {a : Str} {i : Nat} (hi : i < a.length) : decV (a.take (i + 1)) = 10 * decV (a.take i) + ((a.getD i 0).toNat - 48) := by
  rw [List.take_add_one, show a[i]?.toList = [a.getD i 0] by simp [hi], decV_app]
theorem decV_bd : ∀ (n : Nat) (a : Str), a.length ≤ n → decV a + 23 ≤ 300 * 10 ^ n
  | 0, a, h => by
    have : a = [] := List.eq_nil_of_length_eq_zero (by omega)
    subst this
    decide
  | n + 1, a, h => by
    by_cases hne : a = []
    · subst hne
      have : decV [] = 0 := rfl
      rw [this]
      have hp : 1 ≤ 10 ^ (n + 1) := Nat.pow_pos (by decide)
      omega
    · obtain ⟨b, c, rfl⟩ : ∃ b c, a = b ++ [c] := ⟨a.dropLast, a.getLast hne, (List.dropLast_concat_getLast hne).symm⟩
      have ih := decV_bd n b (by simp at h; omega)
      have hc := UInt8.toNat_lt c
      rw [decV_app, Nat.pow_succ]
      have hp : 1 ≤ 10 ^ n := Nat.pow_pos (by decide)
      omega
theorem c_spec_l1Read (a : Str) : Fn Tryd.prog 51 [.str a] (· = .int .i64 (rdN a)) := by
  refine Fn.of free_int fun h => ?_
  refine enter (by kernel_rfl) e51 (by kernel_rfl) rfl fun hok => ?_
  simp only [r51, initEnv_1]
  have hno : rdOk a = false → rdN a = -1 := fun h => by unfold rdN; rw [h]; rfl
  have hno2 : a.all digC = false → rdN a = -1 := fun h => by unfold rdN; rw [h]; simp
  (try (simp (disch := first | omega | (simp <;> omega) | fail) only [push_cast, ↓reduceIte, Nat.reduceEqDiff, Nat.reduceAdd, Nat.reduceMul, Nat.reduceSub, Nat.reduceLT, Int.reduceToNat]))
  refine (c_spec_l1In _ _ _).call ?_
  cases hin : (decide (1 ≤ (a.length : Int)) && decide ((a.length : Int) ≤ 6))
  · rw [hno (by unfold rdOk; rw [hin]; rfl)]
    (try (simp (disch := first | omega | (simp <;> omega) | fail) only [push_cast, ↓reduceIte, Nat.reduceEqDiff, Nat.reduceAdd, Nat.reduceMul, Nat.reduceSub, Nat.reduceLT, Int.reduceToNat]))
  have hin2 : 1 ≤ a.length ∧ a.length ≤ 6 := by
    simp only [Bool.and_eq_true, decide_eq_true_eq] at hin
    omega
  cases hz : rdOk a
  · rw [hno hz]
    unfold rdOk at hz
    rw [hin] at hz
    simp only [Bool.true_and, Bool.not_eq_false', Bool.and_eq_true, decide_eq_true_eq] at hz
    obtain ⟨z1, z2⟩ := hz
    (try (simp (disch := first | omega | (simp <;> omega) | fail) only [push_cast, ↓reduceIte, Nat.reduceEqDiff, Nat.reduceAdd, Nat.reduceMul, Nat.reduceSub, Nat.reduceLT, Int.reduceToNat, z1]))
  have hz2 := hz
  unfold rdOk at hz2
  rw [hin] at hz2
  simp only [Bool.true_and, Bool.not_eq_true', Bool.and_eq_false_iff, decide_eq_false_iff_not] at hz2
  by_cases z1 : ((a.getD 0 0).toNat : Int) = 48
  all_goals
    have z2 : (¬ ((a.getD 0 0).toNat : Int) = 48) ∨ ¬ (1 < (a.length : Int)) := hz2
    (try (simp (disch := first | omega | (simp <;> omega) | fail) only [push_cast, ↓reduceIte, Nat.reduceEqDiff, Nat.reduceAdd, Nat.reduceMul, Nat.reduceSub, Nat.reduceLT, Int.reduceToNat, z1]))
    refine T_for a.length (fun i e h' => Pins e [(0, .str a), (3, .int .i64 (decV (a.take i) : Int)), (4, .int .i64 i)] ∧ h' = h ∧ (a.take i).all digC = true) ?_ ?_
    · (try (simp (disch := first | omega | (simp <;> omega) | fail) only [push_cast, ↓reduceIte, Nat.reduceEqDiff, Nat.reduceAdd, Nat.reduceMul, Nat.reduceSub, Nat.reduceLT, Int.reduceToNat]))
      all_goals (try simp [decV])
    rintro i e h' hi ⟨hp, rfl, ha⟩
    refine T_pins hp fun e => ?_
    (try (simp (disch := first | omega | (simp <;> omega) | fail) only [push_cast, ↓reduceIte, Nat.reduceEqDiff, Nat.reduceAdd, Nat.reduceMul, Nat.reduceSub, Nat.reduceLT, Int.reduceToNat]))
    first | refine goC_split (fun hc => ?_) (fun hc => ?_) | refine cnd_split (fun hc => ?_) (fun hc => ?_)
    · (try (simp only [decide_eq_true_eq, decide_eq_false_iff_not, Bool.not_eq_true', Bool.not_eq_false', Bool.and_eq_true, Bool.or_eq_true, Int.not_lt, Int.not_le] at hc)); (try (simp (disch := first | omega | (simp <;> omega) | fail) only [push_cast, ↓reduceIte, Nat.reduceEqDiff, Nat.reduceAdd, Nat.reduceMul, Nat.reduceSub, Nat.reduceLT, Int.reduceToNat]))
      have hi2 : i < a.length := by omega
      have hbd := decV_bd 5 (a.take i) (by rw [List.length_take]; omega)
      have hcb := UInt8.toNat_lt (a.getD i 0)
      cases hk : digC (a.getD i 0)
      · rw [hno2 (digC_no hi2 hk)]
        simp only [digC, Bool.and_eq_false_iff, decide_eq_false_iff_not] at hk
        by_cases h48 : ((a.getD i 0).toNat : Int) < 48
        · (try (simp (disch := first | omega | (simp <;> omega) | fail) only [push_cast, ↓reduceIte, Nat.reduceEqDiff, Nat.reduceAdd, Nat.reduceMul, Nat.reduceSub, Nat.reduceLT, Int.reduceToNat]))
        · have h57 : 57 < ((a.getD i 0).toNat : Int) := by omega
          (try (simp (disch := first | omega | (simp <;> omega) | fail) only [push_cast, ↓reduceIte, Nat.reduceEqDiff, Nat.reduceAdd, Nat.reduceMul, Nat.reduceSub, Nat.reduceLT, Int.reduceToNat]))
      · have hk2 := digC_is.1 hk
        have hdt := digC_take hi2
        rw [ha, hk] at hdt
        have hvt := decV_take hi2
        have hvi : ((decV (a.take (i + 1)) : Nat) : Int) = 10 * (decV (a.take i) : Int) + (((a.getD i 0).toNat : Int) - 48) := by
          rw [hvt]
          omega
        (try (simp (disch := first | omega | (simp <;> omega) | fail) only [push_cast, ↓reduceIte, Nat.reduceEqDiff, Nat.reduceAdd, Nat.reduceMul, Nat.reduceSub, Nat.reduceLT, Int.reduceToNat]))
        all_goals (try exact ⟨hvi.symm, hdt⟩)
        all_goals (try (rw [hvi]))
        all_goals (try exact hdt)
    · (try (simp only [decide_eq_true_eq, decide_eq_false_iff_not, Bool.not_eq_true', Bool.not_eq_false', Bool.and_eq_true, Bool.or_eq_true, Int.not_lt, Int.not_le] at hc)); (try (simp (disch := first | omega | (simp <;> omega) | fail) only [push_cast, ↓reduceIte, Nat.reduceEqDiff, Nat.reduceAdd, Nat.reduceMul, Nat.reduceSub, Nat.reduceLT, Int.reduceToNat]))
      have he : a.take i = a := List.take_of_length_le (by omega)
      rw [he] at ha ⊢
      have hr : rdN a = decV a := by unfold rdN; rw [hz, ha]; rfl
      rw [hr]

theorem c_spec_l1All (a : Option (List Int)) (lo hi : Int) : Fn Tryd.prog 80 [eI a, .int .i64 lo, .int .i64 hi] (· = .bool ((lI a).all fun m => decide (lo ≤ m) && decide (m ≤ hi))) := by
  refine Fn.of free_bool fun h => ?_
  refine enter (by kernel_rfl) e80 (by kernel_rfl) rfl fun hok => ?_
  simp only [r80, initEnv_3]
  have hlen := ok_eI (okV_0 hok)
  (try (simp (disch := first | omega | (simp <;> omega) | fail) only [push_cast, ↓reduceIte, Nat.reduceEqDiff, Nat.reduceAdd, Nat.reduceMul, Nat.reduceSub, Nat.reduceLT, Int.reduceToNat]))
  refine T_for (lI a).length (fun i e h' => Pins e [(1, .int .i64 lo), (2, .int .i64 hi), (9, eI a), (10, .int .i64 (lI a).length), (11, .int .i64 i)] ∧ h' = h ∧ ((lI a).take i).all (fun m => decide (lo ≤ m) && decide (m ≤ hi)) = true) ?_ ?_
  · (try (simp (disch := first | omega | (simp <;> omega) | fail) only [push_cast, ↓reduceIte, Nat.reduceEqDiff, Nat.reduceAdd, Nat.reduceMul, Nat.reduceSub, Nat.reduceLT, Int.reduceToNat]))
    all_goals (try simp)
  rintro i e h' hi_ ⟨hp, rfl, ha⟩
  refine T_pins hp fun e => ?_
  (try (simp (disch := first | omega | (simp <;> omega) | fail) only [push_cast, ↓reduceIte, Nat.reduceEqDiff, Nat.reduceAdd, Nat.reduceMul, Nat.reduceSub, Nat.reduceLT, Int.reduceToNat]))
  first | refine goC_split (fun hc => ?_) (fun hc => ?_) | refine cnd_split (fun hc => ?_) (fun hc => ?_)
  · (try (simp only [decide_eq_true_eq, decide_eq_false_iff_not, Bool.not_eq_true', Bool.not_eq_false', Bool.and_eq_true, Bool.or_eq_true, Int.not_lt, Int.not_le] at hc)); (try (simp (disch := first | omega | (simp <;> omega) | fail) only [push_cast, ↓reduceIte, Nat.reduceEqDiff, Nat.reduceAdd, Nat.reduceMul, Nat.reduceSub, Nat.reduceLT, Int.reduceToNat]))
    have hi2 : i < (lI a).length := by omega
    (try (simp (disch := first | omega | (simp <;> omega) | fail) only [push_cast, ↓reduceIte, Nat.reduceEqDiff, Nat.reduceAdd, Nat.reduceMul, Nat.reduceSub, Nat.reduceLT, Int.reduceToNat]))
    refine (c_spec_l1In _ _ _).call ?_
    have hn : ((lI a).take (i + 1)).all (fun m => decide (lo ≤ m) && decide (m ≤ hi)) = (decide (lo ≤ (lI a).getD i 0) && decide ((lI a).getD i 0 ≤ hi)) := by
      rw [List.take_add_one, List.all_append, ha]
      simp [hi2]
    cases hk : (decide (lo ≤ (lI a).getD i 0) && decide ((lI a).getD i 0 ≤ hi))
    · (try (simp (disch := first | omega | (simp <;> omega) | fail) only [push_cast, ↓reduceIte, Nat.reduceEqDiff, Nat.reduceAdd, Nat.reduceMul, Nat.reduceSub, Nat.reduceLT, Int.reduceToNat]))
      symm
      rw [List.all_eq_false]
      refine ⟨(lI a).getD i 0, by simp [hi2], by rw [hk]; simp⟩
    · (try (simp (disch := first | omega | (simp <;> omega) | fail) only [push_cast, ↓reduceIte, Nat.reduceEqDiff, Nat.reduceAdd, Nat.reduceMul, Nat.reduceSub, Nat.reduceLT, Int.reduceToNat]))
      rw [hn, hk]
  · (try (simp only [decide_eq_true_eq, decide_eq_false_iff_not, Bool.not_eq_true', Bool.not_eq_false', Bool.and_eq_true, Bool.or_eq_true, Int.not_lt, Int.not_le] at hc)); (try (simp (disch := first | omega | (simp <;> omega) | fail) only [push_cast, ↓reduceIte, Nat.reduceEqDiff, Nat.reduceAdd, Nat.reduceMul, Nat.reduceSub, Nat.reduceLT, Int.reduceToNat]))
    have : (lI a).take i = lI a := List.take_of_length_le (by omega)
    rw [this] at ha
    rw [ha]

theorem c_spec_pfPeeled (p : Pd) : Fn Tryd.prog 52 [eP p] (· = .bool (okPd p)) := by
  refine Fn.of free_bool fun h => ?_
  refine enter (by kernel_rfl) e52 (by kernel_rfl) rfl fun hok => ?_
  simp only [r52, initEnv_1]
  (try (simp (disch := first | omega | (simp <;> omega) | fail) only [push_cast, ↓reduceIte, Nat.reduceEqDiff, Nat.reduceAdd, Nat.reduceMul, Nat.reduceSub, Nat.reduceLT, Int.reduceToNat]))
  unfold okPd
  refine (c_spec_l1In _ _ _).call ?_
  cases h1 : (decide (0 ≤ p.seed) && decide (p.seed ≤ 9999))
  · (try (simp (disch := first | omega | (simp <;> omega) | fail) only [push_cast, ↓reduceIte, Nat.reduceEqDiff, Nat.reduceAdd, Nat.reduceMul, Nat.reduceSub, Nat.reduceLT, Int.reduceToNat]))
  (try (simp (disch := first | omega | (simp <;> omega) | fail) only [push_cast, ↓reduceIte, Nat.reduceEqDiff, Nat.reduceAdd, Nat.reduceMul, Nat.reduceSub, Nat.reduceLT, Int.reduceToNat]))
  refine (c_spec_l1In _ _ _).call ?_
  cases h2 : (decide (1 ≤ p.seg) && decide (p.seg ≤ 24))
  · (try (simp (disch := first | omega | (simp <;> omega) | fail) only [push_cast, ↓reduceIte, Nat.reduceEqDiff, Nat.reduceAdd, Nat.reduceMul, Nat.reduceSub, Nat.reduceLT, Int.reduceToNat]))
  have h3 : 1 ≤ p.seg ∧ p.seg ≤ 24 := by simpa using h2
  (try (simp (disch := first | omega | (simp <;> omega) | fail) only [push_cast, ↓reduceIte, Nat.reduceEqDiff, Nat.reduceAdd, Nat.reduceMul, Nat.reduceSub, Nat.reduceLT, Int.reduceToNat]))
  first | refine goC_split (fun hc => ?_) (fun hc => ?_) | refine cnd_split (fun hc => ?_) (fun hc => ?_)
  · (try (simp only [decide_eq_true_eq, decide_eq_false_iff_not, Bool.not_eq_true', Bool.not_eq_false', Bool.and_eq_true, Bool.or_eq_true, Int.not_lt, Int.not_le] at hc)); (try (simp (disch := first | omega | (simp <;> omega) | fail) only [push_cast, ↓reduceIte, Nat.reduceEqDiff, Nat.reduceAdd, Nat.reduceMul, Nat.reduceSub, Nat.reduceLT, Int.reduceToNat]))
    refine (c_spec_l1All _ _ _).call ?_
    (try (simp (disch := first | omega | (simp <;> omega) | fail) only [push_cast, ↓reduceIte, Nat.reduceEqDiff, Nat.reduceAdd, Nat.reduceMul, Nat.reduceSub, Nat.reduceLT, Int.reduceToNat]))
    unfold okMarks
    all_goals (try rfl)
  · (try (simp only [decide_eq_true_eq, decide_eq_false_iff_not, Bool.not_eq_true', Bool.not_eq_false', Bool.and_eq_true, Bool.or_eq_true, Int.not_lt, Int.not_le] at hc)); (try (simp (disch := first | omega | (simp <;> omega) | fail) only [push_cast, ↓reduceIte, Nat.reduceEqDiff, Nat.reduceAdd, Nat.reduceMul, Nat.reduceSub, Nat.reduceLT, Int.reduceToNat]))

/-- A number as it is read: told to be one, it is spelt so; and what is spelt so is told to be one. -/
def NumR (a : Str) (x : AV) : Prop := ∃ (n : Int) (b : Bool), x = .tup [.int .i64 n, .bool b] ∧ (b = true → 0 ≤ n ∧ a = Lib.decDigits n.toNat) ∧ (∀ m : Nat, m < 1000000 → a = Lib.decDigits m → b = true ∧ n = m) ∧ -9223372036854775808 ≤ n ∧ n ≤ 9223372036854775807

def pdT (p : Pd) (i : Nat) : Str := [112, 101, 101, 108, 101, 100, 32] ++ (Lib.itoa p.seed ++ (32 :: (Lib.itoa p.seg ++ (32 :: ((lI p.marks).take i).flatMap Lib.itoa))))
theorem pdT_succ {p : Pd} {i : Nat} (hi : i < (lI p.marks).length) : pdT p (i + 1) = pdT p i ++ Lib.itoa ((lI p.marks).getD i 0) := by
  unfold pdT
  rw [List.take_add_one, List.flatMap_append]
  simp [hi]
def inR (n : Int) : Prop := -9223372036854775808 ≤ n ∧ n ≤ 9223372036854775807
structure InP (p : Pd) : Prop where
  s : inR p.seed
  g : inR p.seg
  m : ∀ m ∈ lI p.marks, inR m
theorem itoa_len {n : Int} (h : inR n) : (Lib.itoa n).length ≤ 21 := Lib.itoa_length_le n h.1 h.2
theorem itoas_len : ∀ {l : List Int}, (∀ m ∈ l, inR m) → (l.flatMap Lib.itoa).length ≤ 21 * l.length
  | [], _ => by simp
  | m :: l, h => by
    rw [List.flatMap_cons, List.length_append, List.length_cons]
    have h1 := itoa_len (h m (by simp))
    have h2 := itoas_len fun x hx => h x (List.mem_cons_of_mem _ hx)
    omega
theorem pdT_len {p : Pd} (h : InP p) (i : Nat) (hi : i ≤ (lI p.marks).length) : (pdT p i).length ≤ 60 + 21 * (lI p.marks).length := by
  have h1 := itoa_len h.s
  have h2 := itoa_len h.g
  have h3 := itoas_len (l := (lI p.marks).take i) fun m hm => h.m m (List.mem_of_mem_take hm)
  rw [List.length_take] at h3
  unfold pdT
  simp only [List.length_append, List.length_cons, List.length_nil]
  omega
def imgPV (p : Pd) : AV := if okPd p then sealV (pdT p (lI p.marks).length) else .tup [.str [], .bool false]
theorem free_imgPV {p : Pd} : Free (imgPV p) := by
  unfold imgPV
  split
  · exact free_sealV
  · exact free_tup (free_cons_ free_str (free_cons_ free_bool free_nil_))
theorem fit_ints_bd {zs : List AV} (h : Fit (.sl (.int .i64) 1) zs) : ∃ a : Option (List Int), zs = [eI a] ∧ ∀ m ∈ lI a, inR m := by
  have key : ∀ xs, Fit (.int .i64) xs → ∃ a : { n : Int // inR n }, xs = [AV.int .i64 a.1] := fun xs hx => by
    obtain ⟨n, hn, h1, h2⟩ := fit_int hx
    exact ⟨⟨n, h1, h2⟩, hn⟩
  haveI : Inhabited { n : Int // inR n } := ⟨⟨0, by unfold inR; omega⟩⟩
  rcases fit_rows (f := fun a : { n : Int // inR n } => [AV.int .i64 a.1]) key h with rfl | ⟨l, rfl⟩
  · exact ⟨none, rfl, by simp [lI]⟩
  · refine ⟨some (l.map (·.1)), ?_, fun m hm => ?_⟩
    · rw [flatMap_one]
      simp [eI, Function.comp_def]
    · obtain ⟨a, _, rfl⟩ := List.mem_map.1 hm
      exact a.2
def shPd : Sh := .st [.int .i64, .int .i64, .sl (.int .i64) 1]
theorem fit_pd_bd {zs : List AV} (h : Fit shPd zs) : ∃ p, argOf shPd zs = eP p ∧ InP p := by
  obtain ⟨x1, y1, rfl, h1, h⟩ := fits_cons (fit_st h)
  obtain ⟨x2, y2, rfl, h2, h⟩ := fits_cons h
  obtain ⟨x3, y3, rfl, h3, h⟩ := fits_cons h
  obtain rfl := fits_nil h
  obtain ⟨n, rfl, n1, n2⟩ := fit_int h1
  obtain ⟨m, rfl, m1, m2⟩ := fit_int h2
  obtain ⟨a, rfl, ha⟩ := fit_ints_bd h3
  exact ⟨⟨n, m, a⟩, rfl, ⟨⟨n1, n2⟩, ⟨m1, m2⟩, ha⟩⟩
theorem okPd_in {p : Pd} (h : okPd p = true) : 0 ≤ p.seed ∧ p.seed ≤ 9999 ∧ 1 ≤ p.seg ∧ p.seg ≤ 24 ∧ (lI p.marks).length ≤ 72 ∧ ∀ i, 0 ≤ (lI p.marks).getD i 0 ∧ (lI p.marks).getD i 0 ≤ 3 := by
  have h1 := h
  simp only [okPd, Bool.and_eq_true, decide_eq_true_eq] at h1
  obtain ⟨⟨a1, a2⟩, ⟨b1, b2⟩, c1, hm⟩ := h1
  refine ⟨a1, a2, b1, b2, by omega, fun i => ?_⟩
  by_cases hi : i < (lI p.marks).length
  · unfold okMarks at hm
    have := List.all_eq_true.1 hm ((lI p.marks).getD i 0) (by simp [hi])
    simpa using this
  · have : (lI p.marks).getD i 0 = 0 := by simp [show (lI p.marks).length ≤ i by omega]
    omega

def peW : Str := [112, 101, 101, 108, 101, 100]
def mkM (c : Str) : List Int := c.map fun x => (x.toNat : Int) - 48
theorem mkM_len {c : Str} : (mkM c).length = c.length := by simp [mkM]
theorem mkM_take {c : Str} {i : Nat} (hi : i < c.length) : (mkM (c.take (i + 1))).map (AV.int .i64) = (mkM (c.take i)).map (.int .i64) ++ [.int .i64 (((c.getD i 0).toNat : Int) - 48)] := by
  unfold mkM
  rw [List.take_add_one, List.map_append, List.map_append]
  simp [hi]
def lpP (a b c : Str) : Pd := ⟨rdN a, rdN b, some (mkM c)⟩
def lpT (s : Str) : Option Pd := match splitL 32 (beforeT s) with
  | [w, a, b, c] => if openOk s (beforeT s) = true ∧ w = peW ∧ okPd (lpP a b c) = true then some (lpP a b c) else none
  | _ => none
def lpPd (s : Str) : Pd := (lpT s).getD ⟨0, 0, none⟩
def lpq (s : Str) : Bool := (lpT s).isSome
def lpV (s : Str) : AV := .tup [eP (lpPd s), .bool (lpq s)]
theorem lp_none {s : Str} (h : lpT s = none) : lpV s = .tup [eP ⟨0, 0, none⟩, .bool false] := by
  unfold lpV lpPd lpq
  rw [h]
  rfl
theorem lp_four {s w a b c : Str} (h : splitL 32 (beforeT s) = [w, a, b, c]) (ho : openOk s (beforeT s) = true) (hw : w = peW) (hp : okPd (lpP a b c) = true) : lpV s = .tup [eP (lpP a b c), .bool true] := by
  have : lpT s = some (lpP a b c) := by
    unfold lpT
    rw [h]
    simp only
    rw [if_pos ⟨ho, hw, hp⟩]
  unfold lpV lpPd lpq
  rw [this]
  rfl
theorem lp_bad {s w a b c : Str} (h : splitL 32 (beforeT s) = [w, a, b, c]) (hn : ¬ (openOk s (beforeT s) = true ∧ w = peW ∧ okPd (lpP a b c) = true)) : lpV s = .tup [eP ⟨0, 0, none⟩, .bool false] := lp_none (by
  unfold lpT
  rw [h]
  simp only
  rw [if_neg hn])
theorem lp_closed {s : Str} (ho : openOk s (beforeT s) = false) : lpV s = .tup [eP ⟨0, 0, none⟩, .bool false] := lp_none (by
  unfold lpT
  rw [ho]
  split
  · rw [if_neg (by simp)]
  · rfl)
theorem lp_other {s : Str} (hl : (splitL 32 (beforeT s)).length ≠ 4) : lpV s = .tup [eP ⟨0, 0, none⟩, .bool false] := lp_none (by
  unfold lpT
  split
  · rename_i h
    rw [h] at hl
    simp at hl
  · rfl)
theorem four_of {α : Type} : ∀ {l : List α}, l.length = 4 → ∃ a b c d, l = [a, b, c, d]
  | [a, b, c, d], _ => ⟨a, b, c, d, rfl⟩
/-- Told to be numbers, both: the same table. -/
theorem lp_num {a b c : Str} {n m : Int} {p q : Bool} (h1 : p = true → 0 ≤ n ∧ a = Lib.decDigits n.toNat) (h2 : ∀ k : Nat, k < 1000000 → a = Lib.decDigits k → p = true ∧ n = k)
    (g1 : q = true → 0 ≤ m ∧ b = Lib.decDigits m.toNat) (g2 : ∀ k : Nat, k < 1000000 → b = Lib.decDigits k → q = true ∧ m = k) :
    (p = true ∧ q = true ∧ okPd ⟨n, m, some (mkM c)⟩ = true → (⟨n, m, some (mkM c)⟩ : Pd) = lpP a b c) ∧ (okPd (lpP a b c) = true → p = true ∧ q = true ∧ okPd ⟨n, m, some (mkM c)⟩ = true) := by
  constructor
  · rintro ⟨hp, hq, hk⟩
    obtain ⟨n0, ha⟩ := h1 hp
    obtain ⟨m0, hb⟩ := g1 hq
    obtain ⟨k1, k2, k3, k4, _⟩ := okPd_in hk
    have k1 : 0 ≤ n := k1
    have k2 : n ≤ 9999 := k2
    have k3 : 1 ≤ m := k3
    have k4 : m ≤ 24 := k4
    have e1 : rdN a = n := by
      rw [ha, rd_dec (by omega)]
      omega
    have e2 : rdN b = m := by
      rw [hb, rd_dec (by omega)]
      omega
    unfold lpP
    rw [e1, e2]
  · intro hk
    obtain ⟨k1, k2, k3, k4, _⟩ := okPd_in hk
    have k1 : 0 ≤ rdN a := k1
    have k3 : 1 ≤ rdN b := k3
    obtain ⟨k, r1, r2, r3⟩ := rd_back (a := a) rfl k1
    obtain ⟨l, s1, s2, s3⟩ := rd_back (a := b) (r := rdN b) rfl (by omega)
    obtain ⟨u1, u2⟩ := h2 k r2 r3
    obtain ⟨v1, v2⟩ := g2 l s2 s3
    refine ⟨u1, v1, ?_⟩
    rw [u2, v2, ← r1, ← s1]
    exact hk
def MkI (h h' : H) (r1 r2 : Int) (v : AV) (L : List Int) : Prop := H.cells h' h.length = some [.int .i64 0, .int .i64 0, .nils] ∧ H.cells h' (h.length + 1) = some [.int .i64 r1, .int .i64 r2, v] ∧ ∃ B, S1 h' 1 v L.length (L.map (.int .i64)) B ∧ ∀ k ∈ B, h.length + 2 ≤ k
theorem MkI.one {h h' : H} {r1 r2 : Int} {v : AV} {L : List Int} (hm : MkI h h' r1 r2 v L) : M.one v = true ∧ cellsOf v = [v] := by
  obtain ⟨_, _, B, hs, _⟩ := hm
  rcases hs.2 with ⟨rfl, _⟩ | ⟨b, rfl, _⟩
  · exact ⟨rfl, rfl⟩
  · exact ⟨rfl, rfl⟩
theorem MkI.app {h h' : H} {r1 r2 x : Int} {v : AV} {L : List Int} {pm : Nat → Prop} {Q : AV → H → Prop} (hm : MkI h h' r1 r2 v L) (hpm : ∀ c, h.length ≤ c → pm c) (hL : L.length ≤ 1000000)
    (hQ : ∀ v' h'', M.one v' = true → cellsOf v' = [v'] → H.cells h'' (h.length + 1) = some [.int .i64 r1, .int .i64 r2, v] → MkI h (wr h'' (h.length + 1) [.int .i64 r1, .int .i64 r2, v']) r1 r2 v' (L ++ [x]) → Q v' h'') : apA pm (h' ++ [some (.cells [.int .i64 x])]) Q 1 8 (some ([.int .i64 x], 1)) v := by
  obtain ⟨m1, m2, B, hs, hB⟩ := hm
  have l1 := cells_lt m1
  have l2 := cells_lt m2
  have hs2 := hs.frame (h' := h' ++ [some (.cells [.int .i64 x])]) fun c hc => List.getElem?_append_left (hs.lt c hc)
  refine hs2.app (fun c hc => hpm c (by have := hB c hc; omega)) rfl (by decide) (by omega) fun v' h'' B' q1 q2 q3 q4 => ?_
  simp only [List.length_append, List.length_cons, List.length_nil] at q2
  have hB' : ∀ k ∈ B', h.length + 2 ≤ k := fun k hk => by
    rcases q4 k hk with h5 | h5
    · exact hB k h5
    · simp at h5
      omega
  have hb : ∀ c cs, c < h.length + 2 → H.cells h' c = some cs → H.cells h'' c = some cs := fun c cs hc hcs => by
    have hl := cells_lt hcs
    rw [cells_eq, q3 c (by simp; omega) (fun hb => by have := hB c hb; omega), List.getElem?_append_left hl, ← cells_eq]
    exact hcs
  have c0 := hb _ _ (by omega) m1
  have c1 := hb _ _ (by omega) m2
  have hone : M.one v' = true ∧ cellsOf v' = [v'] := by
    rcases q1.2 with ⟨rfl, _⟩ | ⟨b, rfl, _⟩
    · exact ⟨rfl, rfl⟩
    · exact ⟨rfl, rfl⟩
  have hwk : ∀ k cs, k ≠ h.length + 1 → (wr h'' (h.length + 1) cs)[k]? = h''[k]? := fun k cs hk => by
    unfold wr
    rw [List.getElem?_set_ne (Ne.symm hk)]
  refine hQ v' h'' hone.1 hone.2 c1 ⟨cells_keep (hwk _ _ (by omega)) c0, cells_wr2 (cells_lt c1), B', ?_, hB'⟩
  have q5 := q1.frame (h' := wr h'' (h.length + 1) [.int .i64 r1, .int .i64 r2, v']) fun c hc => hwk c _ (by have := hB' c hc; omega)
  simpa using q5

theorem mkV {g : H} {v : AV} {L : List Int} {B : List Nat} (hs : S1 g 1 v L.length (L.map (.int .i64)) B) : ∃ q : Option (List Int), (∀ r1 r2 : Int, Vw g 0 (.agg [.int .i64 r1, .int .i64 r2, v]) (eP ⟨r1, r2, q⟩)) ∧ lI q = L := by
  have key : ∃ q : Option (List Int), Vw g 0 v (eI q) ∧ lI q = L := by
    rcases hs.2 with ⟨rfl, h0, _⟩ | ⟨bb, rfl, hbb, hcb⟩
    · exact ⟨none, .free free_nils, (List.length_eq_zero_iff.1 h0).symm⟩
    · exact ⟨some L, vw_all (Nat.zero_le _) hcb (by simp) (one_map fun _ => rfl) (free_map_ fun _ => free_int), rfl⟩
  obtain ⟨q, h1, h2⟩ := key
  refine ⟨q, fun r1 r2 => .agg rfl fun j y t hy ht => ?_, h2⟩
  rcases j with _ | _ | _ | j
  · simp [cP] at hy ht
    subst hy ht
    exact .free free_int
  · simp [cP] at hy ht
    subst hy ht
    exact .free free_int
  · simp [cP] at hy ht
    subst hy ht
    exact h1
  · simp at hy

theorem c_spec_LoadPeeled (s : Str) : Fn Tryd.prog 19 [.str s] (· = lpV s) := by
  refine Fn.froze fun h => ?_
  refine enter (by kernel_rfl) e19 (by kernel_rfl) rfl fun hok => ?_
  simp only [r19, initEnv_1]
  have hnone : ∀ {hh : H}, lpV s = .tup [eP ⟨0, 0, none⟩, .bool false] → Vw hh h.length (.tup [.agg [.int .i64 0, .int .i64 0, .nils], .bool false]) (lpV s) := fun h1 => by
    rw [h1]
    exact .free (free_tup (free_cons_ (free_eP (p := ⟨0, 0, none⟩)) (free_cons_ free_bool free_nil_)))
  (try (simp (disch := first | omega | (simp <;> omega) | fail) only [push_cast, ↓reduceIte, Nat.reduceEqDiff, Nat.reduceAdd, Nat.reduceMul, Nat.reduceSub, Nat.reduceLT, Int.reduceToNat]))
  refine (c_spec_stOpen s).call ?_
  unfold openV
  cases hk : openOk s (beforeT s)
  · have hl := lp_closed hk
    (try (simp (disch := first | omega | (simp <;> omega) | fail) only [push_cast, ↓reduceIte, Nat.reduceEqDiff, Nat.reduceAdd, Nat.reduceMul, Nat.reduceSub, Nat.reduceLT, Int.reduceToNat]))
    refine (c_spec_l1Split [] (by simp)).call ?_
    (try (simp (disch := first | omega | (simp <;> omega) | fail) only [push_cast, ↓reduceIte, Nat.reduceEqDiff, Nat.reduceAdd, Nat.reduceMul, Nat.reduceSub, Nat.reduceLT, Int.reduceToNat]))
    all_goals (try exact hnone hl)
  have h6 := open_len hk
  (try (simp (disch := first | omega | (simp <;> omega) | fail) only [push_cast, ↓reduceIte, Nat.reduceEqDiff, Nat.reduceAdd, Nat.reduceMul, Nat.reduceSub, Nat.reduceLT, Int.reduceToNat]))
  refine (c_spec_l1Split (beforeT s) (by omega)).call ?_
  by_cases h4 : (splitL 32 (beforeT s)).length = 4
  · obtain ⟨w, a, b, c, hL⟩ := four_of h4
    have hlen := splitL_len 32 (beforeT s)
    rw [hL] at hlen
    have hcl := hlen c (by simp)
    rw [hL]
    by_cases hw : w = peW
    · have hw2 : w = [112, 101, 101, 108, 101, 100] := hw
      subst hw2
      generalize hD : RCode.dreg (.fl ⟨some 30, _, _⟩ _) = D
      have hLs : lS (some [[112, 101, 101, 108, 101, 100], a, b, c]) = [[112, 101, 101, 108, 101, 100], a, b, c] := rfl
      have hLl : (lS (some [[112, 101, 101, 108, 101, 100], a, b, c])).length = 4 := rfl
      (try (simp (disch := first | omega | (simp <;> omega) | fail) only [push_cast, ↓reduceIte, Nat.reduceEqDiff, Nat.reduceAdd, Nat.reduceMul, Nat.reduceSub, Nat.reduceLT, Int.reduceToNat, hLs]))
      refine T_cut (fun e h' => Pins e [(2, .adr h.length 0), (3, .bool false), (6, eS (some [[112, 101, 101, 108, 101, 100], a, b, c])), (7, .adr (h.length + 1) 0)] ∧ MkI h h' (rdN a) (rdN b) .nils []) ?_ ?_
      · rw [← hD]
        have hra := c_spec_l1Read a
        have hrb := c_spec_l1Read b
        have hmk : ∀ r1 r2 : Int, MkI h (h ++ [some (.cells [.int .i64 0, .int .i64 0, .nils]), some (.cells [.int .i64 r1, .int .i64 r2, .nils])]) r1 r2 .nils [] := fun r1 r2 => ⟨by rw [cells_h0]; rfl, by rw [cells_hk]; rfl, [], S1.nil, by simp⟩
        (try (simp (disch := first | omega | (simp <;> omega) | fail) only [push_cast, ↓reduceIte, Nat.reduceEqDiff, Nat.reduceAdd, Nat.reduceMul, Nat.reduceSub, Nat.reduceLT, Int.reduceToNat, hLs, reads, List.mem_cons, List.mem_append, List.not_mem_nil, nat_ff, or_self, or_false, false_or, not_false_eq_true]))
        repeat' (with_reducible refine And.intro ?_ ?_)
        · refine hra.call ?_
          (try (simp (disch := first | omega | (simp <;> omega) | fail) only [push_cast, ↓reduceIte, Nat.reduceEqDiff, Nat.reduceAdd, Nat.reduceMul, Nat.reduceSub, Nat.reduceLT, Int.reduceToNat, hLs, reads, List.mem_cons, List.mem_append, List.not_mem_nil, nat_ff, or_self, or_false, false_or, not_false_eq_true]))
          repeat' (with_reducible refine And.intro ?_ ?_)
          all_goals
            refine hrb.call ?_
            (try (simp (disch := first | omega | (simp <;> omega) | fail) only [push_cast, ↓reduceIte, Nat.reduceEqDiff, Nat.reduceAdd, Nat.reduceMul, Nat.reduceSub, Nat.reduceLT, Int.reduceToNat, hLs, reads, List.mem_cons, List.mem_append, List.not_mem_nil, nat_ff, or_self, or_false, false_or, not_false_eq_true]))
            all_goals (try exact hmk _ _)
        · refine hra.call ?_
          (try (simp (disch := first | omega | (simp <;> omega) | fail) only [push_cast, ↓reduceIte, Nat.reduceEqDiff, Nat.reduceAdd, Nat.reduceMul, Nat.reduceSub, Nat.reduceLT, Int.reduceToNat, hLs, reads, List.mem_cons, List.mem_append, List.not_mem_nil, nat_ff, or_self, or_false, false_or, not_false_eq_true]))
          refine hrb.call ?_
          (try (simp (disch := first | omega | (simp <;> omega) | fail) only [push_cast, ↓reduceIte, Nat.reduceEqDiff, Nat.reduceAdd, Nat.reduceMul, Nat.reduceSub, Nat.reduceLT, Int.reduceToNat, hLs, reads, List.mem_cons, List.mem_append, List.not_mem_nil, nat_ff, or_self, or_false, false_or, not_false_eq_true]))
          all_goals (try exact hmk _ _)
      rintro e g ⟨hp, hmk⟩
      refine T_pins hp fun e => ?_
      have hpm : (h.length ≤ h.length) = True := by simp
      have hpm1 : (h.length ≤ h.length + 1) = True := by simp
      have hov : ∀ v' v : AV, cellsOf v' = [v'] → over [AV.int .i64 (rdN a), .int .i64 (rdN b), v] 2 (cellsOf v') = [.int .i64 (rdN a), .int .i64 (rdN b), v'] := fun v' v h1 => by
        rw [h1]
        rfl
      (try (simp (disch := first | omega | (simp <;> omega) | fail) only [push_cast, ↓reduceIte, Nat.reduceEqDiff, Nat.reduceAdd, Nat.reduceMul, Nat.reduceSub, Nat.reduceLT, Int.reduceToNat, hLs]))
      refine T_for c.length (fun i e h' => ∃ v, Pins e [(2, .adr h.length 0), (3, .bool false), (6, eS (some [[112, 101, 101, 108, 101, 100], a, b, c])), (7, .adr (h.length + 1) 0), (8, .int .i64 i)] ∧ MkI h h' (rdN a) (rdN b) v (mkM (c.take i))) ?_ ?_
      · refine ⟨.nils, ?_⟩
        (try (simp (disch := first | omega | (simp <;> omega) | fail) only [push_cast, ↓reduceIte, Nat.reduceEqDiff, Nat.reduceAdd, Nat.reduceMul, Nat.reduceSub, Nat.reduceLT, Int.reduceToNat]))
        all_goals (try exact hmk)
      rintro i e g2 hi ⟨v, hp, hm⟩
      refine T_pins hp fun e => ?_
      have hb1 := hm.1
      have hb7 := hm.2.1
      obtain ⟨o1, o2⟩ := hm.one
      have hb7' : ∀ l, H.cells (g2 ++ l) (h.length + 1) = some [.int .i64 (rdN a), .int .i64 (rdN b), v] := fun l => cells_app hb7
      have hg3 : ([[112, 101, 101, 108, 101, 100], a, b, c] : List Str).getD 3 [] = c := rfl
      (try (simp (disch := first | omega | (simp <;> omega) | fail) only [push_cast, ↓reduceIte, Nat.reduceEqDiff, Nat.reduceAdd, Nat.reduceMul, Nat.reduceSub, Nat.reduceLT, Int.reduceToNat, hLs, hg3]))
      first | refine goC_split (fun hc => ?_) (fun hc => ?_) | refine cnd_split (fun hc => ?_) (fun hc => ?_)
      · (try (simp only [decide_eq_true_eq, decide_eq_false_iff_not, Bool.not_eq_true', Bool.not_eq_false', Bool.and_eq_true, Bool.or_eq_true, Int.not_lt, Int.not_le] at hc)); (try (simp (disch := first | omega | (simp <;> omega) | fail) only [push_cast, ↓reduceIte, Nat.reduceEqDiff, Nat.reduceAdd, Nat.reduceMul, Nat.reduceSub, Nat.reduceLT, Int.reduceToNat]))
        have hi2 : i < c.length := by omega
        have hcb := UInt8.toNat_lt (c.getD i 0)
        have hnx : mkM (c.take (i + 1)) = mkM (c.take i) ++ [((c.getD i 0).toNat : Int) - 48] := by
          unfold mkM
          rw [List.take_add_one, List.map_append]
          simp [hi2]
        have hml : (mkM (c.take i)).length ≤ 1000000 := by rw [mkM_len, List.length_take]; omega
        have hg3 : ([[112, 101, 101, 108, 101, 100], a, b, c] : List Str).getD 3 [] = c := rfl
        (try (simp (disch := first | omega | (simp <;> omega) | fail) only [push_cast, ↓reduceIte, Nat.reduceEqDiff, Nat.reduceAdd, Nat.reduceMul, Nat.reduceSub, Nat.reduceLT, Int.reduceToNat, hLs, hb7, hb7', o1, o2, hg3, reads, List.mem_cons, List.mem_append, List.not_mem_nil, nat_ff, or_self, or_false, false_or, not_false_eq_true]))
        repeat' (with_reducible refine And.intro ?_ ?_)
        all_goals
          refine hm.app (x := ((c.getD i 0).toNat : Int) - 48) (fun c hc => Or.inr hc) hml fun v' h'' p1 p2 p3 p4 => ?_
          rw [← hnx] at p4
          (try (simp (disch := first | omega | (simp <;> omega) | fail) only [push_cast, ↓reduceIte, Nat.reduceEqDiff, Nat.reduceAdd, Nat.reduceMul, Nat.reduceSub, Nat.reduceLT, Int.reduceToNat, p1, p2, p3, hpm1, hov, reads, List.mem_cons, List.mem_append, List.not_mem_nil, nat_ff, or_self, or_false, false_or, not_false_eq_true]))
          all_goals (try exact ⟨_, rfl, p4⟩)
          all_goals (try exact ⟨_, p4⟩)
      · (try (simp only [decide_eq_true_eq, decide_eq_false_iff_not, Bool.not_eq_true', Bool.not_eq_false', Bool.and_eq_true, Bool.or_eq_true, Int.not_lt, Int.not_le] at hc)); (try (simp (disch := first | omega | (simp <;> omega) | fail) only [push_cast, ↓reduceIte, Nat.reduceEqDiff, Nat.reduceAdd, Nat.reduceMul, Nat.reduceSub, Nat.reduceLT, Int.reduceToNat]))
        have hie : i = c.length := by omega
        subst hie
        rw [List.take_length] at hm
        obtain ⟨m1, m2, B, hs, hB⟩ := id hm
        obtain ⟨q, hvq, hq⟩ := mkV hs
        have hokq : okPd ⟨rdN a, rdN b, q⟩ = okPd (lpP a b c) := by
          unfold okPd
          rw [show lI (⟨rdN a, rdN b, q⟩ : Pd).marks = mkM c from hq]
          rfl
        (try (simp (disch := first | omega | (simp <;> omega) | fail) only [push_cast, ↓reduceIte, Nat.reduceEqDiff, Nat.reduceAdd, Nat.reduceMul, Nat.reduceSub, Nat.reduceLT, Int.reduceToNat, hb7, o1, o2]))
        refine (c_spec_pfPeeled ⟨rdN a, rdN b, q⟩).lendL (.cons (hvq _ _) .nil) own_bool ?_
        rw [hokq]
        have hw : ∀ cs, H.cells (wr g2 h.length cs) h.length = some cs := fun cs => cells_wr2 (cells_lt hb1)
        cases hk2 : okPd (lpP a b c)
        · have hl := lp_bad hL fun h5 => by rw [hk2] at h5; exact absurd h5.2.2 (by decide)
          (try (simp (disch := first | omega | (simp <;> omega) | fail) only [push_cast, ↓reduceIte, Nat.reduceEqDiff, Nat.reduceAdd, Nat.reduceMul, Nat.reduceSub, Nat.reduceLT, Int.reduceToNat, hb1, hpm, hw]))
          all_goals (try exact hnone hl)
        · have hl := lp_four hL hk rfl hk2
          have hlm := okPd_in hk2
          rcases hs.2 with ⟨rfl, h0, _⟩ | ⟨bb, rfl, hbb, hcb⟩
          · exfalso
            have h1 : ((lI (lpP a b c).marks).length : Int) = 3 * (lpP a b c).seg := by
              have := hk2
              simp only [okPd, Bool.and_eq_true, decide_eq_true_eq] at this
              exact this.2.2.1
            have h2 : (lI (lpP a b c).marks).length = (mkM c).length := rfl
            have h3 : 1 ≤ (lpP a b c).seg := hlm.2.2.1
            omega
          · have hbB := hB bb (by rw [hbb]; simp)
            have hvw : ∀ cs, Vw (wr g2 h.length cs) h.length (.tup [.agg [.int .i64 (rdN a), .int .i64 (rdN b), .sl bb 0 1 (mkM c).length (mkM c).length], .bool true]) (lpV s) := fun cs => by
              rw [hl]
              have hc2 : H.cells (wr g2 h.length cs) bb = some ((mkM c).map (.int .i64)) := cells_keep (by unfold wr; rw [List.getElem?_set_ne (by omega)]) hcb
              refine .tup rfl fun j y t hy ht => ?_
              rcases j with _ | _ | j
              · simp at hy ht
                subst hy ht
                refine .agg rfl fun j y t hy ht => ?_
                rcases j with _ | _ | _ | j
                · simp [cP, lpP] at hy ht
                  subst hy ht
                  exact .free free_int
                · simp [cP, lpP] at hy ht
                  subst hy ht
                  exact .free free_int
                · simp [cP, lpP, eI] at hy ht
                  subst hy ht
                  exact vw_all (by omega) hc2 (by simp) (one_map fun _ => rfl) (free_map_ fun _ => free_int)
                · simp at hy
              · simp at hy ht
                subst hy ht
                exact .free free_bool
              · simp at hy
            (try (simp (disch := first | omega | (simp <;> omega) | fail) only [push_cast, ↓reduceIte, Nat.reduceEqDiff, Nat.reduceAdd, Nat.reduceMul, Nat.reduceSub, Nat.reduceLT, Int.reduceToNat, hb1, hb7, hpm, hw]))
            all_goals (try exact hvw _)
    · have hw2 : ¬ w = [112, 101, 101, 108, 101, 100] := hw
      have hl := lp_bad hL (fun h5 => hw h5.2.1)
      have hLs : lS (some [w, a, b, c]) = [w, a, b, c] := rfl
      have hLl : (lS (some [w, a, b, c])).length = 4 := rfl
      (try (simp (disch := first | omega | (simp <;> omega) | fail) only [push_cast, ↓reduceIte, Nat.reduceEqDiff, Nat.reduceAdd, Nat.reduceMul, Nat.reduceSub, Nat.reduceLT, Int.reduceToNat, hw2, hLs]))
      all_goals (try exact hnone hl)
  · have hl := lp_other h4
    have hn2 : ¬ ((lS (some (splitL 32 (beforeT s)))).length : Int) = 4 := fun h5 => h4 (by have : (lS (some (splitL 32 (beforeT s)))).length = (splitL 32 (beforeT s)).length := rfl; omega)
    (try (simp (disch := first | omega | (simp <;> omega) | fail) only [push_cast, ↓reduceIte, Nat.reduceEqDiff, Nat.reduceAdd, Nat.reduceMul, Nat.reduceSub, Nat.reduceLT, Int.reduceToNat, hn2]))
    all_goals (try exact hnone hl)

def AtR (s : Str) (x : AV) : Prop := ∃ n : Int, -9223372036854775808 ≤ n ∧ n ≤ 9223372036854775807 ∧ (x = .tup [.int .i64 n, .nili] ∧ Lib.atoiAll s = .ok n ∨ x = .tup [.int .i64 n, .ifc] ∧ ∀ m : Nat, m < 1000000 → s ≠ Lib.decDigits m)
theorem vr_two {S : Nat → Prop} {w : World} {μ : Mu} {x y : AV} {v u : Value} (h1 : VR S w μ x v) (h2 : VR S w μ y u) : VR S w μ (.tup [x, y]) (.tuple #[v, u]) := .tup rfl fun i z hz => by
  rcases i with _ | _ | i
  · simp at hz; subst hz; exact h1
  · simp at hz; subst hz; exact h2
  · simp at hz
theorem c_strconv_Atoi (s : Str) (hs : s.length ≤ 1000000) : Fn Tryd.prog 83 [.str s] (AtR s) :=
  Fn.ofBelow (show ¬ DRQ from id) (canEnter_of Tryd.func83 (by kernel_rfl) (by kernel_rfl)) fun S w μ cargs hg ha => by
    obtain ⟨v, rfl, hv⟩ := ar_1 ha
    rw [hv.str_]
    have hsz : (⟨s.toArray⟩ : ByteArray).size = s.length := rfl
    have hbad : ∀ {q}, Lib.atoiAll s = q → (∀ n, q ≠ .ok n) → ∀ m : Nat, m < 1000000 → s ≠ Lib.decDigits m := fun hq hn m hm he => by
      rw [he, atoi_dec hm] at hq
      exact hn _ hq.symm
    rcases hat : Lib.atoiAll s with n | _ | _
    · obtain ⟨b0, b1⟩ := Lib.atoiAll_bounds hat
      refine (Tryd.strconv_Atoi_ok ⟨s.toArray⟩ (by rw [hsz]; omega) n hat w).mono ?_
      rintro e w' ⟨rfl, hw⟩
      refine ⟨_, .tup [.int .i64 n, .nili], rfl, ⟨n, b0, b1, .inl ⟨rfl, hat⟩⟩, fun S w μ => vr_two (.int _ _) .nili, ?_⟩
      rcases hw with rfl | ⟨t, rfl⟩
      · exact Below.refl _ _
      · exact Lib.bytesWorld_below _ _ _
    · obtain ⟨tp, p, hc⟩ := gl_if (g := 1) hg (by simp [ifGlobs])
      refine (Tryd.strconv_Atoi_bad ⟨s.toArray⟩ (by rw [hsz]; omega) (fun v h5 => by
        have h5 : Lib.atoiAll s = .ok v := h5
        rw [hat] at h5
        cases h5) (fun h5 => by
        have h5 : Lib.atoiAll s = .range := h5
        rw [hat] at h5
        cases h5) (.iface tp p) w hc (.inr ⟨tp, p, rfl⟩)).mono ?_
      rintro e w' ⟨N, rfl, _, _, hb⟩
      exact ⟨_, .tup [.int .i64 0, .ifc], rfl, ⟨0, by decide, by decide, .inr ⟨rfl, hbad hat fun n hn => by cases hn⟩⟩, fun S w μ => vr_two (.int _ _) (.ifc _ _), hb⟩
    · obtain ⟨tp, p, hc⟩ := gl_if (g := 2) hg (by simp [ifGlobs])
      refine (Tryd.strconv_Atoi_range ⟨s.toArray⟩ (by rw [hsz]; omega) hat (.iface tp p) w hc (.inr ⟨tp, p, rfl⟩)).mono ?_
      rintro e w' ⟨N, rfl, _, _, hb⟩
      obtain ⟨b0, b1⟩ := Lib.atoiSat_bounds s
      exact ⟨_, .tup [.int .i64 (Lib.atoiSat s), .ifc], rfl, ⟨Lib.atoiSat s, by omega, by omega, .inr ⟨rfl, hbad hat fun n hn => by cases hn⟩⟩, fun S w μ => vr_two (.int _ _) (.ifc _ _), hb⟩

theorem c_impl_number (a : Str) (hl : a.length ≤ 1000000) : Fn Tryd.prog 53 [.str a] (NumR a) := by
  refine Fn.froze_ fun h => ?_
  refine enter (by kernel_rfl) e53 (by kernel_rfl) rfl fun hok => ?_
  simp only [r53, initEnv_1]
  have hfr : ∀ (n : Int) (b : Bool), Free (.tup [.int .i64 n, .bool b]) := fun n b => free_tup (free_cons_ free_int (free_cons_ free_bool free_nil_))
  (try (simp (disch := first | omega | (simp <;> omega) | fail) only [push_cast, ↓reduceIte, Nat.reduceEqDiff, Nat.reduceAdd, Nat.reduceMul, Nat.reduceSub, Nat.reduceLT, Int.reduceToNat]))
  refine (c_strconv_Atoi a hl).use ?_
  rintro x ⟨n, n0, n1, ⟨rfl, hat⟩ | ⟨rfl, hbad⟩⟩
  · have hm : ∀ m : Nat, m < 1000000 → a = Lib.decDigits m → n = m := fun m hm ha => by
      rw [ha, atoi_dec hm] at hat
      injection hat with hat
      exact hat.symm
    by_cases hn : 0 ≤ n
    · have hni : decide (0 ≤ n) = true := by simp [hn]
      (try (simp (disch := first | omega | (simp <;> omega) | fail) only [push_cast, ↓reduceIte, Nat.reduceEqDiff, Nat.reduceAdd, Nat.reduceMul, Nat.reduceSub, Nat.reduceLT, Int.reduceToNat, hni]))
      refine (c_strconv_Itoa n n0 n1).call ?_
      rw [itoa_nn hn]
      by_cases he : Lib.decDigits n.toNat = a
      · (try (simp (disch := first | omega | (simp <;> omega) | fail) only [push_cast, ↓reduceIte, Nat.reduceEqDiff, Nat.reduceAdd, Nat.reduceMul, Nat.reduceSub, Nat.reduceLT, Int.reduceToNat, he]))
        all_goals (try exact ⟨_, .free (hfr _ _), n, true, rfl, fun _ => ⟨hn, he.symm⟩, fun m h1 h2 => ⟨rfl, hm m h1 h2⟩, n0, n1⟩)
      · have hf : ∀ m : Nat, m < 1000000 → a = Lib.decDigits m → false = true ∧ n = m := fun m h1 h2 => by
          have := hm m h1 h2
          exact absurd (by rw [h2, this, Int.toNat_natCast]) he
        (try (simp (disch := first | omega | (simp <;> omega) | fail) only [push_cast, ↓reduceIte, Nat.reduceEqDiff, Nat.reduceAdd, Nat.reduceMul, Nat.reduceSub, Nat.reduceLT, Int.reduceToNat, he]))
        all_goals (try exact ⟨_, .free (hfr _ _), n, false, rfl, fun h => absurd h (by decide), hf, n0, n1⟩)
    · have hni : decide (0 ≤ n) = false := by simp [hn]
      have hf : ∀ m : Nat, m < 1000000 → a = Lib.decDigits m → false = true ∧ n = m := fun m h1 h2 => by
        have := hm m h1 h2
        omega
      (try (simp (disch := first | omega | (simp <;> omega) | fail) only [push_cast, ↓reduceIte, Nat.reduceEqDiff, Nat.reduceAdd, Nat.reduceMul, Nat.reduceSub, Nat.reduceLT, Int.reduceToNat, hni]))
      all_goals (try exact ⟨_, .free (hfr _ _), n, false, rfl, fun h => absurd h (by decide), hf, n0, n1⟩)
  · have hf : ∀ m : Nat, m < 1000000 → a = Lib.decDigits m → false = true ∧ n = m := fun m h1 h2 => absurd h2 (hbad m h1)
    (try (simp (disch := first | omega | (simp <;> omega) | fail) only [push_cast, ↓reduceIte, Nat.reduceEqDiff, Nat.reduceAdd, Nat.reduceMul, Nat.reduceSub, Nat.reduceLT, Int.reduceToNat]))
    all_goals (try exact ⟨_, .free (hfr _ _), n, false, rfl, fun h => absurd h (by decide), hf, n0, n1⟩)

/-- Where the first is that is not so, or -1. -/
def firstIx (f : Int → Bool) (l : List Int) : Int := match l.findIdx? f with | some i => i | none => -1
theorem firstIx_all {f : Int → Bool} {l : List Int} : (decide (0 ≤ firstIx f l)) = !(l.all fun m => !f m) := by
  unfold firstIx
  cases h : l.findIdx? f with
  | none =>
    rw [List.findIdx?_eq_none_iff] at h
    have : (l.all fun m => !f m) = true := by
      rw [List.all_eq_true]
      intro x hx
      rw [h x hx]
      rfl
    rw [this]
    rfl
  | some i =>
    have : (l.all fun m => !f m) = false := by
      rw [List.findIdx?_eq_some_iff_getElem] at h
      obtain ⟨hi, hf, _⟩ := h
      rw [List.all_eq_false]
      exact ⟨l[i], List.getElem_mem hi, by simp [hf]⟩
    rw [this]
    simp

theorem c_slices_IndexFunc_int (a : Option (List Int)) (f : Nat) (g : Int → Bool) (hg : ∀ m, Fn Tryd.prog f [.int .i64 m] (· = .bool (g m))) : Fn Tryd.prog 118 [eI a, .fn f []] (fun x => ∃ n : Int, x = .int .i64 n ∧ decide (0 ≤ n) = !((lI a).all fun m => !g m)) := by
  intro h
  refine Call.gc (Call.mono (?_ : Call Tryd.prog 118 [eI a, .fn f []] h Nowhere (fun x _ => ∃ n : Int, x = .int .i64 n ∧ decide (0 ≤ n) = !((lI a).all fun m => !g m))) (fun x _ ⟨n, hn, hx⟩ => ⟨⟨n, hn, hx⟩, by rw [hn]; exact free_int⟩) (fun _ _ h => h))
  refine enter (by kernel_rfl) e118 (by kernel_rfl) rfl fun hok => ?_
  simp only [r118, initEnv_2]
  have hlen := ok_eI (okV_0 hok)
  (try (simp (disch := first | omega | (simp <;> omega) | fail) only [push_cast, ↓reduceIte, Nat.reduceEqDiff, Nat.reduceAdd, Nat.reduceMul, Nat.reduceSub, Nat.reduceLT, Int.reduceToNat]))
  refine T_for (lI a).length (fun i e h' => Pins e [(0, eI a), (1, .fn f []), (7, .int .i64 (lI a).length), (8, .int .i64 i)] ∧ h' = h ∧ ((lI a).take i).all (fun m => !g m) = true) ?_ ?_
  · (try (simp (disch := first | omega | (simp <;> omega) | fail) only [push_cast, ↓reduceIte, Nat.reduceEqDiff, Nat.reduceAdd, Nat.reduceMul, Nat.reduceSub, Nat.reduceLT, Int.reduceToNat]))
    all_goals (try simp)
  rintro i e h' hi ⟨hp, rfl, ha⟩
  refine T_pins hp fun e => ?_
  (try (simp (disch := first | omega | (simp <;> omega) | fail) only [push_cast, ↓reduceIte, Nat.reduceEqDiff, Nat.reduceAdd, Nat.reduceMul, Nat.reduceSub, Nat.reduceLT, Int.reduceToNat]))
  first | refine goC_split (fun hc => ?_) (fun hc => ?_) | refine cnd_split (fun hc => ?_) (fun hc => ?_)
  · (try (simp only [decide_eq_true_eq, decide_eq_false_iff_not, Bool.not_eq_true', Bool.not_eq_false', Bool.and_eq_true, Bool.or_eq_true, Int.not_lt, Int.not_le] at hc)); (try (simp (disch := first | omega | (simp <;> omega) | fail) only [push_cast, ↓reduceIte, Nat.reduceEqDiff, Nat.reduceAdd, Nat.reduceMul, Nat.reduceSub, Nat.reduceLT, Int.reduceToNat]))
    have hi2 : i < (lI a).length := by omega
    (try (simp (disch := first | omega | (simp <;> omega) | fail) only [push_cast, ↓reduceIte, Nat.reduceEqDiff, Nat.reduceAdd, Nat.reduceMul, Nat.reduceSub, Nat.reduceLT, Int.reduceToNat]))
    refine (hg _).call ?_
    have hn : ((lI a).take (i + 1)).all (fun m => !g m) = !(g ((lI a).getD i 0)) := by
      rw [List.take_add_one, List.all_append, ha]
      simp [hi2]
    cases hk : g ((lI a).getD i 0)
    · (try (simp (disch := first | omega | (simp <;> omega) | fail) only [push_cast, ↓reduceIte, Nat.reduceEqDiff, Nat.reduceAdd, Nat.reduceMul, Nat.reduceSub, Nat.reduceLT, Int.reduceToNat]))
      rw [hn, hk]
      rfl
    · (try (simp (disch := first | omega | (simp <;> omega) | fail) only [push_cast, ↓reduceIte, Nat.reduceEqDiff, Nat.reduceAdd, Nat.reduceMul, Nat.reduceSub, Nat.reduceLT, Int.reduceToNat]))
      refine ⟨_, rfl, ?_⟩
      have : ((lI a).all fun m => !g m) = false := by
        rw [List.all_eq_false]
        exact ⟨(lI a).getD i 0, by simp [hi2], by rw [hk]; simp⟩
      rw [this]
      simp
  · (try (simp only [decide_eq_true_eq, decide_eq_false_iff_not, Bool.not_eq_true', Bool.not_eq_false', Bool.and_eq_true, Bool.or_eq_true, Int.not_lt, Int.not_le] at hc)); (try (simp (disch := first | omega | (simp <;> omega) | fail) only [push_cast, ↓reduceIte, Nat.reduceEqDiff, Nat.reduceAdd, Nat.reduceMul, Nat.reduceSub, Nat.reduceLT, Int.reduceToNat]))
    have : (lI a).take i = lI a := List.take_of_length_le (by omega)
    rw [this] at ha
    refine ⟨_, rfl, ?_⟩
    rw [ha]
    rfl
theorem c_IndexFunc_int_cap (a : Option (List Int)) (f b0 : Nat) (cs : List AV) (g : Int → Bool) (hg : ∀ m, Fn Tryd.prog f [.int .i64 m, .rad cs 0] (· = .bool (g m))) (hfree : ∀ c ∈ cs, Free c) (h : H) (hb : h.cells b0 = some cs) (hlen0 : (lI a).length ≤ 9223372036854775807) : Call Tryd.prog 118 [eI a, .fn f [.adr b0 0]] h Nowhere (fun x h' => (∃ n : Int, x = .int .i64 n ∧ decide (0 ≤ n) = !((lI a).all fun m => !g m)) ∧ h' = h) := by
  refine Call.gc (Call.mono (?_ : Call Tryd.prog 118 [eI a, .fn f [.adr b0 0]] h Nowhere (fun x _ => ∃ n : Int, x = .int .i64 n ∧ decide (0 ≤ n) = !((lI a).all fun m => !g m))) (fun x _ ⟨n, hn, hx⟩ => ⟨⟨n, hn, hx⟩, by rw [hn]; exact free_int⟩) (fun _ _ h => h))
  refine enter (by kernel_rfl) e118 (by kernel_rfl) rfl fun hok => ?_
  simp only [r118, initEnv_2]
  have hlen := hlen0
  (try (simp (disch := first | omega | (simp <;> omega) | fail) only [push_cast, ↓reduceIte, Nat.reduceEqDiff, Nat.reduceAdd, Nat.reduceMul, Nat.reduceSub, Nat.reduceLT, Int.reduceToNat]))
  refine T_for (lI a).length (fun i e h' => Pins e [(0, eI a), (1, .fn f [.adr b0 0]), (7, .int .i64 (lI a).length), (8, .int .i64 i)] ∧ h' = h ∧ ((lI a).take i).all (fun m => !g m) = true) ?_ ?_
  · (try (simp (disch := first | omega | (simp <;> omega) | fail) only [push_cast, ↓reduceIte, Nat.reduceEqDiff, Nat.reduceAdd, Nat.reduceMul, Nat.reduceSub, Nat.reduceLT, Int.reduceToNat]))
    all_goals (try simp)
  rintro i e h' hi ⟨hp, rfl, ha⟩
  refine T_pins hp fun e => ?_
  (try (simp (disch := first | omega | (simp <;> omega) | fail) only [push_cast, ↓reduceIte, Nat.reduceEqDiff, Nat.reduceAdd, Nat.reduceMul, Nat.reduceSub, Nat.reduceLT, Int.reduceToNat]))
  first | refine goC_split (fun hc => ?_) (fun hc => ?_) | refine cnd_split (fun hc => ?_) (fun hc => ?_)
  · (try (simp only [decide_eq_true_eq, decide_eq_false_iff_not, Bool.not_eq_true', Bool.not_eq_false', Bool.and_eq_true, Bool.or_eq_true, Int.not_lt, Int.not_le] at hc)); (try (simp (disch := first | omega | (simp <;> omega) | fail) only [push_cast, ↓reduceIte, Nat.reduceEqDiff, Nat.reduceAdd, Nat.reduceMul, Nat.reduceSub, Nat.reduceLT, Int.reduceToNat]))
    have hi2 : i < (lI a).length := by omega
    (try (simp (disch := first | omega | (simp <;> omega) | fail) only [push_cast, ↓reduceIte, Nat.reduceEqDiff, Nat.reduceAdd, Nat.reduceMul, Nat.reduceSub, Nat.reduceLT, Int.reduceToNat]))
    refine (hg _).lendL (.free free_int (.adr hb hfree .nil)) own_bool ?_
    have hn : ((lI a).take (i + 1)).all (fun m => !g m) = !(g ((lI a).getD i 0)) := by
      rw [List.take_add_one, List.all_append, ha]
      simp [hi2]
    cases hk : g ((lI a).getD i 0)
    · (try (simp (disch := first | omega | (simp <;> omega) | fail) only [push_cast, ↓reduceIte, Nat.reduceEqDiff, Nat.reduceAdd, Nat.reduceMul, Nat.reduceSub, Nat.reduceLT, Int.reduceToNat]))
      rw [hn, hk]
      rfl
    · (try (simp (disch := first | omega | (simp <;> omega) | fail) only [push_cast, ↓reduceIte, Nat.reduceEqDiff, Nat.reduceAdd, Nat.reduceMul, Nat.reduceSub, Nat.reduceLT, Int.reduceToNat]))
      refine ⟨_, rfl, ?_⟩
      have : ((lI a).all fun m => !g m) = false := by
        rw [List.all_eq_false]
        exact ⟨(lI a).getD i 0, by simp [hi2], by rw [hk]; simp⟩
      rw [this]
      simp
  · (try (simp only [decide_eq_true_eq, decide_eq_false_iff_not, Bool.not_eq_true', Bool.not_eq_false', Bool.and_eq_true, Bool.or_eq_true, Int.not_lt, Int.not_le] at hc)); (try (simp (disch := first | omega | (simp <;> omega) | fail) only [push_cast, ↓reduceIte, Nat.reduceEqDiff, Nat.reduceAdd, Nat.reduceMul, Nat.reduceSub, Nat.reduceLT, Int.reduceToNat]))
    have : (lI a).take i = lI a := List.take_of_length_le (by omega)
    rw [this] at ha
    refine ⟨_, rfl, ?_⟩
    rw [ha]
    rfl

theorem c_slices_ContainsFunc_int (a : Option (List Int)) (f : Nat) (g : Int → Bool) (hg : ∀ m, Fn Tryd.prog f [.int .i64 m] (· = .bool (g m))) : Fn Tryd.prog 84 [eI a, .fn f []] (· = .bool (!((lI a).all fun m => !g m))) := by
  refine Fn.of free_bool fun h => ?_
  refine enter (by kernel_rfl) e84 (by kernel_rfl) rfl fun hok => ?_
  simp only [r84, initEnv_2]
  (try (simp (disch := first | omega | (simp <;> omega) | fail) only [push_cast, ↓reduceIte, Nat.reduceEqDiff, Nat.reduceAdd, Nat.reduceMul, Nat.reduceSub, Nat.reduceLT, Int.reduceToNat]))
  refine (c_slices_IndexFunc_int a f g hg).use ?_
  rintro x ⟨n, rfl, hn⟩
  rw [← hn]
  (try (simp (disch := first | omega | (simp <;> omega) | fail) only [push_cast, ↓reduceIte, Nat.reduceEqDiff, Nat.reduceAdd, Nat.reduceMul, Nat.reduceSub, Nat.reduceLT, Int.reduceToNat]))
  (first | refine goC_split (fun hc => ?_) (fun hc => ?_) | refine cnd_split (fun hc => ?_) (fun hc => ?_)) <;> ((try (simp (disch := first | omega | (simp <;> omega) | fail) only [push_cast, ↓reduceIte, Nat.reduceEqDiff, Nat.reduceAdd, Nat.reduceMul, Nat.reduceSub, Nat.reduceLT, Int.reduceToNat]))) <;> (try rw [hc])
theorem c_ContainsFunc_int_cap (a : Option (List Int)) (f b0 : Nat) (cs : List AV) (g : Int → Bool) (hg : ∀ m, Fn Tryd.prog f [.int .i64 m, .rad cs 0] (· = .bool (g m))) (hfree : ∀ c ∈ cs, Free c) (h : H) (hb : h.cells b0 = some cs) (hlen0 : (lI a).length ≤ 9223372036854775807) : Call Tryd.prog 84 [eI a, .fn f [.adr b0 0]] h Nowhere (fun x h' => x = .bool (!((lI a).all fun m => !g m)) ∧ h' = h) := by
  refine Call.gc (Call.mono (?_ : Call Tryd.prog 84 [eI a, .fn f [.adr b0 0]] h Nowhere (fun x _ => x = .bool (!((lI a).all fun m => !g m)))) (fun x _ hx => ⟨hx, by rw [hx]; exact free_bool⟩) (fun _ _ h => h))
  refine enter (by kernel_rfl) e84 (by kernel_rfl) rfl fun hok => ?_
  simp only [r84, initEnv_2]
  (try (simp (disch := first | omega | (simp <;> omega) | fail) only [push_cast, ↓reduceIte, Nat.reduceEqDiff, Nat.reduceAdd, Nat.reduceMul, Nat.reduceSub, Nat.reduceLT, Int.reduceToNat]))
  refine (c_IndexFunc_int_cap a f b0 cs g hg hfree h hb hlen0).mono (fun x h' hx => ?_) (fun _ _ h => h.elim)
  obtain ⟨⟨n, rfl, hn⟩, rfl⟩ := hx
  rw [← hn]
  (try (simp (disch := first | omega | (simp <;> omega) | fail) only [push_cast, ↓reduceIte, Nat.reduceEqDiff, Nat.reduceAdd, Nat.reduceMul, Nat.reduceSub, Nat.reduceLT, Int.reduceToNat]))
  (first | refine goC_split (fun hc => ?_) (fun hc => ?_) | refine cnd_split (fun hc => ?_) (fun hc => ?_)) <;> ((try (simp (disch := first | omega | (simp <;> omega) | fail) only [push_cast, ↓reduceIte, Nat.reduceEqDiff, Nat.reduceAdd, Nat.reduceMul, Nat.reduceSub, Nat.reduceLT, Int.reduceToNat]))) <;> (try rw [hc])

theorem c_impl_isSeed (n : Int) : Fn Tryd.prog 86 [.int .i64 n] (· = .bool (decide (0 ≤ n) && decide (n ≤ 9999))) := by
  refine Fn.of free_bool fun h => ?_
  refine enter (by kernel_rfl) e86 (by kernel_rfl) rfl fun hok => ?_
  simp only [r86, initEnv_1]
  (try (simp (disch := first | omega | (simp <;> omega) | fail) only [push_cast, ↓reduceIte, Nat.reduceEqDiff, Nat.reduceAdd, Nat.reduceMul, Nat.reduceSub, Nat.reduceLT, Int.reduceToNat]))
  refine (c_impl_in _ _ _).call ?_
  (try (simp (disch := first | omega | (simp <;> omega) | fail) only [push_cast, ↓reduceIte, Nat.reduceEqDiff, Nat.reduceAdd, Nat.reduceMul, Nat.reduceSub, Nat.reduceLT, Int.reduceToNat]))

theorem c_impl_segmentOk (n : Int) : Fn Tryd.prog 87 [.int .i64 n] (· = .bool (decide (1 ≤ n) && decide (n ≤ 24))) := by
  refine Fn.of free_bool fun h => ?_
  refine enter (by kernel_rfl) e87 (by kernel_rfl) rfl fun hok => ?_
  simp only [r87, initEnv_1]
  (try (simp (disch := first | omega | (simp <;> omega) | fail) only [push_cast, ↓reduceIte, Nat.reduceEqDiff, Nat.reduceAdd, Nat.reduceMul, Nat.reduceSub, Nat.reduceLT, Int.reduceToNat]))
  refine (c_impl_in _ _ _).call ?_
  (try (simp (disch := first | omega | (simp <;> omega) | fail) only [push_cast, ↓reduceIte, Nat.reduceEqDiff, Nat.reduceAdd, Nat.reduceMul, Nat.reduceSub, Nat.reduceLT, Int.reduceToNat]))

theorem c_impl_IsPeeled_1 (m : Int) : Fn Tryd.prog 85 [.int .i64 m] (· = .bool (!(decide (0 ≤ m) && decide (m ≤ 3)))) := by
  refine Fn.of free_bool fun h => ?_
  refine enter (by kernel_rfl) e85 (by kernel_rfl) rfl fun hok => ?_
  simp only [r85, initEnv_1]
  (try (simp (disch := first | omega | (simp <;> omega) | fail) only [push_cast, ↓reduceIte, Nat.reduceEqDiff, Nat.reduceAdd, Nat.reduceMul, Nat.reduceSub, Nat.reduceLT, Int.reduceToNat]))
  refine (c_impl_in _ _ _).call ?_
  (try (simp (disch := first | omega | (simp <;> omega) | fail) only [push_cast, ↓reduceIte, Nat.reduceEqDiff, Nat.reduceAdd, Nat.reduceMul, Nat.reduceSub, Nat.reduceLT, Int.reduceToNat]))

theorem c_impl_IsPeeled (p : Pd) : Fn Tryd.prog 54 [eP p] (· = .bool (okPd p)) := by
  refine Fn.of free_bool fun h => ?_
  refine enter (by kernel_rfl) e54 (by kernel_rfl) rfl fun hok => ?_
  simp only [r54, initEnv_1]
  (try (simp (disch := first | omega | (simp <;> omega) | fail) only [push_cast, ↓reduceIte, Nat.reduceEqDiff, Nat.reduceAdd, Nat.reduceMul, Nat.reduceSub, Nat.reduceLT, Int.reduceToNat]))
  refine (c_slices_ContainsFunc_int p.marks _ _ c_impl_IsPeeled_1).call ?_
  have hm : ((lI p.marks).all fun m => !!(decide (0 ≤ m) && decide (m ≤ 3))) = okMarks (lI p.marks) := by
    unfold okMarks
    simp only [Bool.not_not]
  rw [hm]
  unfold okPd
  cases h0 : okMarks (lI p.marks)
  · (try (simp (disch := first | omega | (simp <;> omega) | fail) only [push_cast, ↓reduceIte, Nat.reduceEqDiff, Nat.reduceAdd, Nat.reduceMul, Nat.reduceSub, Nat.reduceLT, Int.reduceToNat]))
    all_goals (try simp)
  (try (simp (disch := first | omega | (simp <;> omega) | fail) only [push_cast, ↓reduceIte, Nat.reduceEqDiff, Nat.reduceAdd, Nat.reduceMul, Nat.reduceSub, Nat.reduceLT, Int.reduceToNat]))
  refine (c_impl_isSeed _).call ?_
  cases h1 : (decide (0 ≤ p.seed) && decide (p.seed ≤ 9999))
  · (try (simp (disch := first | omega | (simp <;> omega) | fail) only [push_cast, ↓reduceIte, Nat.reduceEqDiff, Nat.reduceAdd, Nat.reduceMul, Nat.reduceSub, Nat.reduceLT, Int.reduceToNat]))
  (try (simp (disch := first | omega | (simp <;> omega) | fail) only [push_cast, ↓reduceIte, Nat.reduceEqDiff, Nat.reduceAdd, Nat.reduceMul, Nat.reduceSub, Nat.reduceLT, Int.reduceToNat]))
  refine (c_impl_segmentOk _).call ?_
  cases h2 : (decide (1 ≤ p.seg) && decide (p.seg ≤ 24))
  · (try (simp (disch := first | omega | (simp <;> omega) | fail) only [push_cast, ↓reduceIte, Nat.reduceEqDiff, Nat.reduceAdd, Nat.reduceMul, Nat.reduceSub, Nat.reduceLT, Int.reduceToNat]))
  have h3 : 1 ≤ p.seg ∧ p.seg ≤ 24 := by simpa using h2
  (try (simp (disch := first | omega | (simp <;> omega) | fail) only [push_cast, ↓reduceIte, Nat.reduceEqDiff, Nat.reduceAdd, Nat.reduceMul, Nat.reduceSub, Nat.reduceLT, Int.reduceToNat]))
  (first | refine goC_split (fun hc => ?_) (fun hc => ?_) | refine cnd_split (fun hc => ?_) (fun hc => ?_)) <;> ((try (simp (disch := first | omega | (simp <;> omega) | fail) only [push_cast, ↓reduceIte, Nat.reduceEqDiff, Nat.reduceAdd, Nat.reduceMul, Nat.reduceSub, Nat.reduceLT, Int.reduceToNat]))) <;> (try rw [hc])

theorem c_impl_LoadPeeled_o (s : Str) (hsl : s.length ≤ 1000000000) : FnO Tryd.prog 20 [.str s] (· = lpV s) := by
  intro h
  refine enter (by kernel_rfl) e20 (by kernel_rfl) rfl fun hok => ?_
  simp only [r20, initEnv_1]
  have hnone : ∀ {hh : H}, lpV s = .tup [eP ⟨0, 0, none⟩, .bool false] → ∃ t, Ow hh [.tup [.agg [.int .i64 0, .int .i64 0, .nils], .bool false]] [t] (fun c => h.length ≤ c) ∧ t = lpV s := fun h1 => ⟨_, (Ow.two (F := fun _ => False) (F' := fun _ => False) (Ow.aggOf (.atom rfl (.atom rfl (.atom rfl .nil)))) (.atom rfl .nil) (fun c (hc : False) => hc.elim) (fun _ h => h.elim)).tupOf, h1.symm⟩
  have hpm : (h.length ≤ h.length) = True := by simp
  have hpm1 : (h.length ≤ h.length + 1) = True := by simp
  (try (simp (disch := first | omega | (simp <;> omega) | fail) only [push_cast, ↓reduceIte, Nat.reduceEqDiff, Nat.reduceAdd, Nat.reduceMul, Nat.reduceSub, Nat.reduceLT, Int.reduceToNat]))
  refine (c_impl_opened s [112, 101, 101, 108, 101, 100] hsl).call ?_
  unfold openedV
  by_cases hop : openOk s (beforeT s) = true ∧ (splitL 32 (beforeT s)).getD 0 [] = [112, 101, 101, 108, 101, 100]
  · rw [if_pos hop]
    obtain ⟨hk, hw⟩ := hop
    have h6 := open_len hk
    have hnl := splitL_nlen 32 (beforeT s)
    by_cases h4 : (splitL 32 (beforeT s)).length = 4
    · obtain ⟨w, a, b, c, hL⟩ := four_of h4
      have hlen := splitL_len 32 (beforeT s)
      rw [hL] at hlen
      have hal := hlen a (by simp)
      have hbl := hlen b (by simp)
      have hcl := hlen c (by simp)
      have hw2 : w = peW := by
        rw [hL] at hw
        exact hw
      rw [show (splitL 32 (beforeT s)).drop 1 = [a, b, c] by rw [hL]; rfl]
      have hLs : lS (some [a, b, c]) = [a, b, c] := rfl
      have hLl : (lS (some [a, b, c])).length = 3 := rfl
      (try (simp (disch := first | omega | (simp <;> omega) | fail) only [push_cast, ↓reduceIte, Nat.reduceEqDiff, Nat.reduceAdd, Nat.reduceMul, Nat.reduceSub, Nat.reduceLT, Int.reduceToNat, hLs]))
      refine (c_impl_number a (by omega)).use ?_
      rintro x ⟨n, p, rfl, n1, n2, _⟩
      (try (simp (disch := first | omega | (simp <;> omega) | fail) only [push_cast, ↓reduceIte, Nat.reduceEqDiff, Nat.reduceAdd, Nat.reduceMul, Nat.reduceSub, Nat.reduceLT, Int.reduceToNat, hLs]))
      refine (c_impl_number b (by omega)).use ?_
      rintro x ⟨m, q, rfl, m1, m2, _⟩
      obtain ⟨lp1, lp2⟩ := lp_num (c := c) n1 n2 m1 m2
      have hmk : MkI h (h ++ [some (.cells [.int .i64 0, .int .i64 0, .nils]), some (.cells [.int .i64 n, .int .i64 m, .nils])]) n m .nils [] := ⟨by rw [cells_h0]; rfl, by rw [cells_hk]; rfl, [], S1.nil, by simp⟩
      have hov : ∀ v' v : AV, cellsOf v' = [v'] → over [AV.int .i64 n, .int .i64 m, v] 2 (cellsOf v') = [.int .i64 n, .int .i64 m, v'] := fun v' v h1 => by
        rw [h1]
        rfl
      have hg2 : ([a, b, c] : List Str).getD 2 [] = c := rfl
      (try (simp (disch := first | omega | (simp <;> omega) | fail) only [push_cast, ↓reduceIte, Nat.reduceEqDiff, Nat.reduceAdd, Nat.reduceMul, Nat.reduceSub, Nat.reduceLT, Int.reduceToNat, hLs, hg2]))
      refine T_for c.length (fun i e h' => ∃ v, Pins e [(2, .adr h.length 0), (3, .bool false), (4, eS (some [a, b, c])), (7, .bool p), (9, .bool q), (10, .adr (h.length + 1) 0), (45, .int .i64 c.length), (46, .int .i64 i)] ∧ MkI h h' n m v (mkM (c.take i))) ?_ ?_
      · refine ⟨.nils, ?_⟩
        (try (simp (disch := first | omega | (simp <;> omega) | fail) only [push_cast, ↓reduceIte, Nat.reduceEqDiff, Nat.reduceAdd, Nat.reduceMul, Nat.reduceSub, Nat.reduceLT, Int.reduceToNat, hLs, hg2]))
        all_goals (try exact hmk)
      rintro i e g2 hi ⟨v, hp, hm⟩
      refine T_pins hp fun e => ?_
      have hb1 := hm.1
      have hb7 := hm.2.1
      obtain ⟨o1, o2⟩ := hm.one
      have hb7' : ∀ l, H.cells (g2 ++ l) (h.length + 1) = some [.int .i64 n, .int .i64 m, v] := fun l => cells_app hb7
      (try (simp (disch := first | omega | (simp <;> omega) | fail) only [push_cast, ↓reduceIte, Nat.reduceEqDiff, Nat.reduceAdd, Nat.reduceMul, Nat.reduceSub, Nat.reduceLT, Int.reduceToNat, hLs, hg2]))
      first | refine goC_split (fun hc => ?_) (fun hc => ?_) | refine cnd_split (fun hc => ?_) (fun hc => ?_)
      · (try (simp only [decide_eq_true_eq, decide_eq_false_iff_not, Bool.not_eq_true', Bool.not_eq_false', Bool.and_eq_true, Bool.or_eq_true, Int.not_lt, Int.not_le] at hc)); (try (simp (disch := first | omega | (simp <;> omega) | fail) only [push_cast, ↓reduceIte, Nat.reduceEqDiff, Nat.reduceAdd, Nat.reduceMul, Nat.reduceSub, Nat.reduceLT, Int.reduceToNat]))
        have hi2 : i < c.length := by omega
        have hcb := UInt8.toNat_lt (c.getD i 0)
        have hnx : mkM (c.take (i + 1)) = mkM (c.take i) ++ [((c.getD i 0).toNat : Int) - 48] := by
          unfold mkM
          rw [List.take_add_one, List.map_append]
          simp [hi2]
        have hml : (mkM (c.take i)).length ≤ 1000000 := by rw [mkM_len, List.length_take]; omega
        (try (simp (disch := first | omega | (simp <;> omega) | fail) only [push_cast, ↓reduceIte, Nat.reduceEqDiff, Nat.reduceAdd, Nat.reduceMul, Nat.reduceSub, Nat.reduceLT, Int.reduceToNat, hLs, hb7, hb7', o1, o2, hg2, reads, List.mem_cons, List.mem_append, List.not_mem_nil, nat_ff, or_self, or_false, false_or, not_false_eq_true]))
        repeat' (with_reducible refine And.intro ?_ ?_)
        all_goals
          refine hm.app (x := ((c.getD i 0).toNat : Int) - 48) (fun c hc => Or.inr hc) hml fun v' h'' p1 p2 p3 p4 => ?_
          rw [← hnx] at p4
          (try (simp (disch := first | omega | (simp <;> omega) | fail) only [push_cast, ↓reduceIte, Nat.reduceEqDiff, Nat.reduceAdd, Nat.reduceMul, Nat.reduceSub, Nat.reduceLT, Int.reduceToNat, p1, p2, p3, hpm1, hov, reads, List.mem_cons, List.mem_append, List.not_mem_nil, nat_ff, or_self, or_false, false_or, not_false_eq_true]))
          all_goals (try exact ⟨_, rfl, p4⟩)
          all_goals (try exact ⟨_, p4⟩)
      · (try (simp only [decide_eq_true_eq, decide_eq_false_iff_not, Bool.not_eq_true', Bool.not_eq_false', Bool.and_eq_true, Bool.or_eq_true, Int.not_lt, Int.not_le] at hc)); (try (simp (disch := first | omega | (simp <;> omega) | fail) only [push_cast, ↓reduceIte, Nat.reduceEqDiff, Nat.reduceAdd, Nat.reduceMul, Nat.reduceSub, Nat.reduceLT, Int.reduceToNat]))
        have hie : i = c.length := by omega
        subst hie
        rw [List.take_length] at hm
        obtain ⟨mm1, mm2, B, hs, hB⟩ := id hm
        obtain ⟨o, hvq, hq⟩ := mkV hs
        have hokq : okPd ⟨n, m, o⟩ = okPd ⟨n, m, some (mkM c)⟩ := by
          unfold okPd
          rw [show lI (⟨n, m, o⟩ : Pd).marks = mkM c from hq]
          rfl
        have hlt1 := cells_lt hb1
        have hw : ∀ cs, H.cells (wr g2 h.length cs) h.length = some cs := fun cs => cells_wr2 hlt1
        have hbad : ¬ (p = true ∧ q = true ∧ okPd ⟨n, m, some (mkM c)⟩ = true) → lpV s = .tup [eP ⟨0, 0, none⟩, .bool false] := fun hn => lp_bad hL fun h5 => hn (lp2 h5.2.2)
        cases hpv : p
        · have hl := hbad (by rw [hpv]; simp)
          (try (simp (disch := first | omega | (simp <;> omega) | fail) only [push_cast, ↓reduceIte, Nat.reduceEqDiff, Nat.reduceAdd, Nat.reduceMul, Nat.reduceSub, Nat.reduceLT, Int.reduceToNat, hb1, hpm, hw]))
          all_goals (try exact hnone hl)
        cases hqv : q
        · have hl := hbad (by rw [hqv]; simp)
          (try (simp (disch := first | omega | (simp <;> omega) | fail) only [push_cast, ↓reduceIte, Nat.reduceEqDiff, Nat.reduceAdd, Nat.reduceMul, Nat.reduceSub, Nat.reduceLT, Int.reduceToNat, hb1, hpm, hw]))
          all_goals (try exact hnone hl)
        (try (simp (disch := first | omega | (simp <;> omega) | fail) only [push_cast, ↓reduceIte, Nat.reduceEqDiff, Nat.reduceAdd, Nat.reduceMul, Nat.reduceSub, Nat.reduceLT, Int.reduceToNat, hb7, o1, o2]))
        refine (c_impl_IsPeeled ⟨n, m, o⟩).lendL (.cons (hvq _ _) .nil) own_bool ?_
        rw [hokq]
        cases hk2 : okPd ⟨n, m, some (mkM c)⟩
        · have hl := hbad (by rw [hk2]; simp)
          (try (simp (disch := first | omega | (simp <;> omega) | fail) only [push_cast, ↓reduceIte, Nat.reduceEqDiff, Nat.reduceAdd, Nat.reduceMul, Nat.reduceSub, Nat.reduceLT, Int.reduceToNat, hb1, hpm, hw]))
          all_goals (try exact hnone hl)
        · have heq := lp1 ⟨hpv, hqv, hk2⟩
          have hl := lp_four hL hk hw2 (by rw [← heq]; exact hk2)
          rw [← heq] at hl
          rcases hs.2 with ⟨rfl, h0, _⟩ | ⟨bb, rfl, hbb, hcb⟩
          · exfalso
            have h1 : ((mkM c).length : Int) = 3 * m := by
              have := hk2
              simp only [okPd, Bool.and_eq_true, decide_eq_true_eq] at this
              exact this.2.2.1
            have h3 : 1 ≤ m := (okPd_in hk2).2.2.1
            omega
          · have hbB := hB bb (by rw [hbb]; simp)
            have how : ∀ cs, ∃ t, Ow (wr g2 h.length cs) [.tup [.agg [.int .i64 n, .int .i64 m, .sl bb 0 1 (mkM c).length (mkM c).length], .bool true]] [t] (fun c => h.length ≤ c) ∧ t = lpV s := fun cs => by
              have hc2 : H.cells (wr g2 h.length cs) bb = some ((mkM c).map (.int .i64)) := cells_keep (by unfold wr; rw [List.getElem?_set_ne (by omega)]) hcb
              refine ⟨.tup [eP ⟨n, m, some (mkM c)⟩, .bool true], ?_, hl.symm⟩
              refine (Ow.two (F := fun c => h.length ≤ c) (F' := fun _ => False) (Ow.aggOf (ts := cP ⟨n, m, some (mkM c)⟩) (.atom rfl (.atom rfl ?_))) (.atom rfl .nil) (fun c hc => hc) (fun _ h => h.elim)).tupOf
              exact ow_map (f := AV.int .i64) (fun _ => rfl) hc2 rfl (show h.length ≤ bb by omega)
            (try (simp (disch := first | omega | (simp <;> omega) | fail) only [push_cast, ↓reduceIte, Nat.reduceEqDiff, Nat.reduceAdd, Nat.reduceMul, Nat.reduceSub, Nat.reduceLT, Int.reduceToNat, hb1, hb7, hpm, hw]))
            all_goals (try exact how _)
    · have hl := lp_other h4
      have hn2 : ¬ ((lS (some ((splitL 32 (beforeT s)).drop 1))).length : Int) = 3 := fun h5 => h4 (by
        have h6 : (lS (some ((splitL 32 (beforeT s)).drop 1))).length = (splitL 32 (beforeT s)).length - 1 := by
          show ((splitL 32 (beforeT s)).drop 1).length = _
          simp
        have := splitL_ne 32 (beforeT s)
        have := List.length_pos_iff.2 this
        omega)
      generalize (splitL 32 (beforeT s)).drop 1 = L at *
      (try (simp (disch := first | omega | (simp <;> omega) | fail) only [push_cast, ↓reduceIte, Nat.reduceEqDiff, Nat.reduceAdd, Nat.reduceMul, Nat.reduceSub, Nat.reduceLT, Int.reduceToNat, hn2]))
      all_goals (try exact hnone hl)
  · rw [if_neg hop]
    have hl : lpV s = .tup [eP ⟨0, 0, none⟩, .bool false] := by
      cases hk : openOk s (beforeT s) with
      | false => exact lp_closed hk
      | true =>
        by_cases h4 : (splitL 32 (beforeT s)).length = 4
        · obtain ⟨w, a, b, c, hL⟩ := four_of h4
          refine lp_bad hL fun h5 => hop ⟨hk, ?_⟩
          rw [hL]
          exact h5.2.1
        · exact lp_other h4
    (try (simp (disch := first | omega | (simp <;> omega) | fail) only [push_cast, ↓reduceIte, Nat.reduceEqDiff, Nat.reduceAdd, Nat.reduceMul, Nat.reduceSub, Nat.reduceLT, Int.reduceToNat]))
    all_goals (try exact hnone hl)

theorem c_laws_eqPeeled (p q : Pd) : Fn Tryd.prog 21 [eP p, eP q] (· = .bool (decide (p.seed = q.seed) && (decide (p.seg = q.seg) && decide (lI p.marks = lI q.marks)))) := by
  refine Fn.of free_bool fun h => ?_
  refine enter (by kernel_rfl) e21 (by kernel_rfl) rfl fun hok => ?_
  simp only [r21, initEnv_2]
  (try (simp (disch := first | omega | (simp <;> omega) | fail) only [push_cast, ↓reduceIte, Nat.reduceEqDiff, Nat.reduceAdd, Nat.reduceMul, Nat.reduceSub, Nat.reduceLT, Int.reduceToNat]))
  first | refine goC_split (fun hc => ?_) (fun hc => ?_) | refine cnd_split (fun hc => ?_) (fun hc => ?_)
  · (try (simp only [decide_eq_true_eq, decide_eq_false_iff_not, Bool.not_eq_true', Bool.not_eq_false', Bool.and_eq_true, Bool.or_eq_true, Int.not_lt, Int.not_le] at hc)); (try (simp (disch := first | omega | (simp <;> omega) | fail) only [push_cast, ↓reduceIte, Nat.reduceEqDiff, Nat.reduceAdd, Nat.reduceMul, Nat.reduceSub, Nat.reduceLT, Int.reduceToNat]))
  (try (simp only [decide_eq_true_eq, decide_eq_false_iff_not, Bool.not_eq_true', Bool.not_eq_false', Bool.and_eq_true, Bool.or_eq_true, Int.not_lt, Int.not_le] at hc)); (try (simp (disch := first | omega | (simp <;> omega) | fail) only [push_cast, ↓reduceIte, Nat.reduceEqDiff, Nat.reduceAdd, Nat.reduceMul, Nat.reduceSub, Nat.reduceLT, Int.reduceToNat]))
  first | refine goC_split (fun hd => ?_) (fun hd => ?_) | refine cnd_split (fun hd => ?_) (fun hd => ?_)
  · (try (simp only [decide_eq_true_eq, decide_eq_false_iff_not, Bool.not_eq_true', Bool.not_eq_false', Bool.and_eq_true, Bool.or_eq_true, Int.not_lt, Int.not_le] at hd)); (try (simp (disch := first | omega | (simp <;> omega) | fail) only [push_cast, ↓reduceIte, Nat.reduceEqDiff, Nat.reduceAdd, Nat.reduceMul, Nat.reduceSub, Nat.reduceLT, Int.reduceToNat]))
  (try (simp only [decide_eq_true_eq, decide_eq_false_iff_not, Bool.not_eq_true', Bool.not_eq_false', Bool.and_eq_true, Bool.or_eq_true, Int.not_lt, Int.not_le] at hd)); (try (simp (disch := first | omega | (simp <;> omega) | fail) only [push_cast, ↓reduceIte, Nat.reduceEqDiff, Nat.reduceAdd, Nat.reduceMul, Nat.reduceSub, Nat.reduceLT, Int.reduceToNat]))
  refine (c_laws_eqIntS _ _).call ?_
  cases he : decide (lI p.marks = lI q.marks)
  · (try (simp (disch := first | omega | (simp <;> omega) | fail) only [push_cast, ↓reduceIte, Nat.reduceEqDiff, Nat.reduceAdd, Nat.reduceMul, Nat.reduceSub, Nat.reduceLT, Int.reduceToNat]))
    all_goals (try simp [hc, hd])
  · (try (simp (disch := first | omega | (simp <;> omega) | fail) only [push_cast, ↓reduceIte, Nat.reduceEqDiff, Nat.reduceAdd, Nat.reduceMul, Nat.reduceSub, Nat.reduceLT, Int.reduceToNat]))
    all_goals (try simp [hc, hd])

def mkPd (k : Int) (p : Pd) : Pd := ⟨p.seed, p.seg, mkI k p.marks⟩
theorem ow_pd {h : H} {x : AV} {p : Pd} {G : Nat → Prop} (ho : Ow h [x] [eP p] G) : ∃ w F, x = .agg [.int .i64 p.seed, .int .i64 p.seg, w] ∧ Ow h [w] [eI p.marks] F ∧ (∀ c, F c → G c) ∧ one w = true ∧ cellsOf w = [w] ∧ ∀ h' ws, Ow h' [w] [eI ws] F → Ow h' [x] [eP ⟨p.seed, p.seg, ws⟩] G := by
  obtain ⟨cs, rfl, h1⟩ := Ow.openAgg (show Ow h [x] [.agg (cP p)] G from ho)
  have hl : cs.length = 3 := h1.len.symm
  match cs, hl, h1 with
  | [x1, x2, x3], _, h1 =>
    obtain ⟨F, F', f1, f2, f3, f4⟩ := h1.uncons
    obtain ⟨F2, F3, g1, g2, g3, g4⟩ := f2.uncons
    have e1 : x1 = .int .i64 p.seed := f1.atomOf rfl
    have e2 : x2 = .int .i64 p.seg := g1.atomOf rfl
    subst e1 e2
    refine ⟨x3, F3, rfl, g2, fun c hc => (f4 c (g4 c hc).1).1, ?_, ?_, fun h' ws hw => ?_⟩
    · cases hw : p.marks with
      | none => rw [hw] at g2; have : x3 = .nils := g2.atomOf rfl; rw [this]; rfl
      | some ws => rw [hw] at g2; obtain ⟨bb, e2⟩ := Ow.sl1 (show Ow h [x3] [.ro 1 _ _] F3 from g2); rw [e2]; rfl
    · cases hw : p.marks with
      | none => rw [hw] at g2; have : x3 = .nils := g2.atomOf rfl; rw [this]; rfl
      | some ws => rw [hw] at g2; obtain ⟨bb, e2⟩ := Ow.sl1 (show Ow h [x3] [.ro 1 _ _] F3 from g2); rw [e2]; rfl
    · exact Ow.aggOf (ts := cP ⟨p.seed, p.seg, ws⟩) (.atom rfl (.atom rfl (hw.mono fun c hc => (f4 c (g4 c hc).1).1)))
theorem c_laws_markPeeled (v : AV) (p : Pd) (G : Nat → Prop) (k : Int) (h : H) (hs : Ow h [v] [eP p] G) (hG : ∀ c, G c → c < h.length) (hk : 0 ≤ k) (hk2 : k + (lI p.marks).length ≤ 100000000) :
    Call Tryd.prog 22 [v, .int .i64 k] h G (fun x h' => x = .int .i64 (k + (lI p.marks).length) ∧ Kq G h h' ∧ Ow h' [v] [eP (mkPd k p)] G) := by
  obtain ⟨w, F, rfl, f1, f2, f3, f4, f5⟩ := ow_pd hs
  refine enter (by kernel_rfl) e22 (by kernel_rfl) rfl fun hok => ?_
  simp only [r22, initEnv_2]
  (try (simp (disch := first | omega | (simp <;> omega) | fail) only [push_cast, ↓reduceIte, Nat.reduceEqDiff, Nat.reduceAdd, Nat.reduceMul, Nat.reduceSub, Nat.reduceLT, Int.reduceToNat, f3, f4]))
  refine (c_laws_markIntS w p.marks F k _ (f1.frame fun c hc => List.getElem?_append_left (hG c (f2 c hc))) hk hk2).mono (fun x h2 hx => ?_) (fun c hc hF => Or.inl (f2 c hF))
  obtain ⟨rfl, hkp, ho⟩ := hx
  have h1 := hkp.1
  have hkq : Kq G h h2 := ⟨by simp at h1; omega, fun c hc hn => (hkp.2 c fun hf => hn (f2 c hf)).trans (List.getElem?_append_left hc)⟩
  (try (simp (disch := first | omega | (simp <;> omega) | fail) only [push_cast, ↓reduceIte, Nat.reduceEqDiff, Nat.reduceAdd, Nat.reduceMul, Nat.reduceSub, Nat.reduceLT, Int.reduceToNat]))
  exact ⟨hkq, f5 h2 _ ho⟩

theorem c_laws_heldPeeled (p : Pd) (k : Int) (hk : 0 ≤ k) (hk2 : k + (lI p.marks).length ≤ 100000000) : Fn Tryd.prog 23 [eP (mkPd k p), .int .i64 k] (· = .int .i64 (k + (lI p.marks).length)) := by
  refine Fn.of free_int fun h => ?_
  refine enter (by kernel_rfl) e23 (by kernel_rfl) rfl fun hok => ?_
  simp only [r23, initEnv_2]
  have hw : lI (mkPd k p).marks = marksI k (lI p.marks).length := lI_mkI
  (try (simp (disch := first | omega | (simp <;> omega) | fail) only [push_cast, ↓reduceIte, Nat.reduceEqDiff, Nat.reduceAdd, Nat.reduceMul, Nat.reduceSub, Nat.reduceLT, Int.reduceToNat]))
  refine (c_laws_heldIntS (mkPd k p).marks k (lI p.marks).length hw hk hk2).call ?_
  (try (simp (disch := first | omega | (simp <;> omega) | fail) only [push_cast, ↓reduceIte, Nat.reduceEqDiff, Nat.reduceAdd, Nat.reduceMul, Nat.reduceSub, Nat.reduceLT, Int.reduceToNat]))

theorem lpPd_len {s : Str} : (lI (lpPd s).marks).length ≤ 100000 := by
  have key : ∀ p, lpT s = some p → (lI p.marks).length ≤ 100000 := fun p hp => by
    unfold lpT at hp
    split at hp
    · split at hp
      · rename_i hc
        injection hp with hp
        rw [← hp]
        have := (okPd_in hc.2.2).2.2.2.2.1
        omega
      · cases hp
    · cases hp
  unfold lpPd
  cases h : lpT s with
  | none => simp [lI]
  | some p => exact key p h
def sh_FnExactLoadPeeled : List Sh := [.str]
theorem law_FnExactLoadPeeled (ys : List AV) (hy : ArgsFit sh_FnExactLoadPeeled ys) : Call Tryd.prog 5 ys [] Nowhere (fun x _ => x = .bool true) := by
  obtain ⟨x1, y1, rfl, h1, hy⟩ := argsFit_cons hy
  obtain rfl := argsFit_nil hy
  obtain ⟨s, rfl, hsl⟩ := fit_str h1
  refine (?_ : ∀ h, Call Tryd.prog 5 [.str s] h Nowhere (fun x _ => x = .bool true)) []
  intro h
  refine enter (by kernel_rfl) e5 (by kernel_rfl) rfl fun hok => ?_
  simp only [r5, initEnv_1]
  (try (simp (disch := first | omega | (simp <;> omega) | fail) only [push_cast, ↓reduceIte, Nat.reduceEqDiff, Nat.reduceAdd, Nat.reduceMul, Nat.reduceSub, Nat.reduceLT, Int.reduceToNat]))
  first | refine goC_split (fun hc => ?_) (fun hc => ?_) | refine cnd_split (fun hc => ?_) (fun hc => ?_)
  · (try (simp only [decide_eq_true_eq, decide_eq_false_iff_not, Bool.not_eq_true', Bool.not_eq_false', Bool.and_eq_true, Bool.or_eq_true, Int.not_lt, Int.not_le] at hc)); (try (simp (disch := first | omega | (simp <;> omega) | fail) only [push_cast, ↓reduceIte, Nat.reduceEqDiff, Nat.reduceAdd, Nat.reduceMul, Nat.reduceSub, Nat.reduceLT, Int.reduceToNat]))
  (try (simp only [decide_eq_true_eq, decide_eq_false_iff_not, Bool.not_eq_true', Bool.not_eq_false', Bool.and_eq_true, Bool.or_eq_true, Int.not_lt, Int.not_le] at hc)); (try (simp (disch := first | omega | (simp <;> omega) | fail) only [push_cast, ↓reduceIte, Nat.reduceEqDiff, Nat.reduceAdd, Nat.reduceMul, Nat.reduceSub, Nat.reduceLT, Int.reduceToNat]))
  refine (c_spec_LoadPeeled s).call ?_
  have himpl := c_impl_LoadPeeled_o s (by omega)
  have hal := lpPd_len (s := s)
  unfold lpV at himpl ⊢
  generalize lpPd s = a at *
  generalize lpq s = q at *
  have heqB : Fn Tryd.prog 21 [eP a, eP a] (· = .bool true) := by
    have := c_laws_eqPeeled a a
    simpa using this
  have hea : eP a = .agg [.int .i64 a.seed, .int .i64 a.seg, eI a.marks] := rfl
  (try (simp (disch := first | omega | (simp <;> omega) | fail) only [push_cast, ↓reduceIte, Nat.reduceEqDiff, Nat.reduceAdd, Nat.reduceMul, Nat.reduceSub, Nat.reduceLT, Int.reduceToNat]))
  refine himpl.go fun y t h1 hR hx1 how => ?_
  subst hR
  obtain ⟨g0, rfl, how2⟩ := ow_tup2 how
  clear how
  obtain ⟨w, F, rfl, f1, f2, f3, f4, f5⟩ := ow_pd how2
  clear f1 f2 f5 F
  have hl1 := hx1.len
  simp only [List.length_append, List.length_cons, List.length_nil] at hl1 how2
  have hc1 : ∀ l, H.cells (h1 ++ l) h.length = some [.int .i64 a.seed, .int .i64 a.seg, eI a.marks] := fun l => cells_app (hx1.cells (by rw [cells_h0]; rfl))
  have how4 : Ow (h1 ++ [some (.cells [.int .i64 a.seed, .int .i64 a.seg, w])]) [.agg [.int .i64 a.seed, .int .i64 a.seg, w]] [eP a] (Seg (h.length + 1) h1) := Ext.refl.app.ow how2
  clear how2
  (try (simp (disch := first | omega | (simp <;> omega) | fail) only [push_cast, ↓reduceIte, Nat.reduceEqDiff, Nat.reduceAdd, Nat.reduceMul, Nat.reduceSub, Nat.reduceLT, Int.reduceToNat, f3, f4, hc1]))
  refine heqB.lendL (.cons how4.vw0 (.free free_eP .nil)) own_bool ?_
  (try (simp (disch := first | omega | (simp <;> omega) | fail) only [push_cast, ↓reduceIte, Nat.reduceEqDiff, Nat.reduceAdd, Nat.reduceMul, Nat.reduceSub, Nat.reduceLT, Int.reduceToNat, hc1]))
  refine (c_laws_markPeeled _ a _ 1 _ how4 (fun c hc => by have := hc.2; simp; omega) (by omega) (by omega)).mono (fun x h4 hx => ?_) (fun c _ hc => Or.inr (by have := hc.1; omega))
  obtain ⟨rfl, hk2, how6⟩ := hx
  have hl4 := hk2.1
  simp only [List.length_append, List.length_cons, List.length_nil] at hl4
  have hc4 : ∀ l, H.cells (h4 ++ l) h.length = some [.int .i64 a.seed, .int .i64 a.seg, eI a.marks] := fun l => cells_app (cells_keep_ (hk2.2 _ (by simp; omega) fun hc => by have := hc.1; omega) (hc1 _))
  have hg4 : ∀ l, H.cells (h4 ++ l) h1.length = some [.int .i64 a.seed, .int .i64 a.seg, w] := fun l => cells_app (cells_keep_ (hk2.2 _ (by simp) fun hc => by have := hc.2; omega) (by rw [cells_h0]; rfl))
  have hg40 := hg4 []
  have hc40 := hc4 []
  rw [List.append_nil] at hg40 hc40
  have how7 : ∀ l, Ow (h4 ++ l) [.agg [.int .i64 a.seed, .int .i64 a.seg, w]] [eP (mkPd 1 a)] (Seg (h.length + 1) h1) := fun l => how6.frame fun c hc => List.getElem?_append_left (by have := hc.2; omega)
  have hheld := c_laws_heldPeeled a 1 (by omega) (by omega)
  (try (simp (disch := first | omega | (simp <;> omega) | fail) only [push_cast, ↓reduceIte, Nat.reduceEqDiff, Nat.reduceAdd, Nat.reduceMul, Nat.reduceSub, Nat.reduceLT, Int.reduceToNat, hg40]))
  refine hheld.lendL (.cons how6.vw0 (.free free_int .nil)) own_int ?_
  (try (simp (disch := first | omega | (simp <;> omega) | fail) only [push_cast, ↓reduceIte, Nat.reduceEqDiff, Nat.reduceAdd, Nat.reduceMul, Nat.reduceSub, Nat.reduceLT, Int.reduceToNat]))
  refine himpl.fn.call ?_
  (try (simp (disch := first | omega | (simp <;> omega) | fail) only [push_cast, ↓reduceIte, Nat.reduceEqDiff, Nat.reduceAdd, Nat.reduceMul, Nat.reduceSub, Nat.reduceLT, Int.reduceToNat, hc4]))
  refine heqB.call ?_
  (try (simp (disch := first | omega | (simp <;> omega) | fail) only [push_cast, ↓reduceIte, Nat.reduceEqDiff, Nat.reduceAdd, Nat.reduceMul, Nat.reduceSub, Nat.reduceLT, Int.reduceToNat, hg4]))
  refine hheld.lendL (.cons (how7 _).vw0 (.free free_int .nil)) own_int ?_
  (try (simp (disch := first | omega | (simp <;> omega) | fail) only [push_cast, ↓reduceIte, Nat.reduceEqDiff, Nat.reduceAdd, Nat.reduceMul, Nat.reduceSub, Nat.reduceLT, Int.reduceToNat]))

end Go.Proofs.YtoappkfndnggnaaDoor.M
