/-
  What the functions return.
-/
import Derived.Test.YtbkcenkfecndjaaGreatDoorFkv
import Derived.Test.YtbkcenkfecndjaaGreatDoorCku
namespace Go.Proofs.YtbkcenkfecndjaaGreatDoor.M
open Go Go.RowKit
set_option linter.unusedVariables false
set_option linter.unusedSimpArgs false
set_option maxRecDepth 4000

/-- Bits of the call's own, as a tree. -/
theorem ow_B {h : H} {b len : Nat} {n : Int} {ws : List Int} {G : Nat → Prop} (hb : G b) (hc : h.cells b = some (ws.map (.int .i64))) (hl : ws.length = len) : Ow h [.agg [.int .i64 n, .sl b 0 1 len len]] [eB ⟨n, some ws⟩] G := by
  subst hl
  refine Ow.aggOf (ts := cB ⟨n, some ws⟩) (.atom rfl ?_)
  exact ow_map (f := AV.int .i64) (fun _ => rfl) hc rfl hb
def BnI (h h' : H) (n : Int) (m : Nat) (x : AV) : Prop := ∃ b, x = .agg [.int .i64 n, .sl b 0 1 m m] ∧ h.length ≤ b ∧ (∃ p, h' = h ++ p) ∧ h'.cells b = some ((wordsN 0 m).map (.int .i64))
theorem rep_words {m : Nat} : List.replicate m (AV.int .i64 0) = (wordsN 0 m).map (.int .i64) := by
  rw [wordsN_zero]
  simp
def beforeT (s : Str) : Str := s.takeWhile fun c => c != 126
def openOk (s t : Str) : Bool := plainV t && decide (sealT t = s)
def openV (s : Str) : AV := if openOk s (beforeT s) then .tup [.str (beforeT s), .bool true] else .tup [.str [], .bool false]
theorem free_openV {s : Str} : Free (openV s) := by
  unfold openV
  split <;> exact free_tup (free_cons_ free_str (free_cons_ free_bool free_nil_))
theorem plain_no126 {t : Str} (h : plain t = true) : ∀ c ∈ t, (c != 126) = true := by
  intro c hc
  have := List.all_eq_true.1 h c hc
  simp only [okCh, Bool.and_eq_true, decide_eq_true_eq] at this
  simp only [bne_iff_ne, ne_eq]
  intro he
  subst he
  simp at this
theorem plainV_plain {t : Str} (h : plainV t = true) : plain t = true := by
  simp only [plainV, Bool.and_eq_true] at h
  exact h.1
theorem before_app {t r : Str} (h : ∀ c ∈ t, (c != 126) = true) : beforeT (t ++ 126 :: r) = t := by
  unfold beforeT
  rw [List.takeWhile_append_of_pos h]
  simp
theorem sealT_len (t : Str) : t.length < (sealT t).length := by
  unfold sealT
  simp
theorem before_no : ∀ {s : Str}, (126 : UInt8) ∉ s → beforeT s = s
  | [], _ => rfl
  | c :: s, h => by
    simp only [List.mem_cons, not_or] at h
    have ih := before_no h.2
    have hc : (c != 126) = true := by simpa using Ne.symm h.1
    unfold beforeT at ih ⊢
    rw [List.takeWhile_cons, if_pos hc, ih]
theorem open_none {s : Str} (h : (126 : UInt8) ∉ s) : openOk s (beforeT s) = false := by
  rw [before_no h]
  unfold openOk
  have := sealT_len s
  have hne : sealT s ≠ s := fun he => by
    rw [he] at this
    omega
  simp [hne]
theorem split_at {s : Str} {a : Nat} (ha : a < s.length) (hc : s.getD a 0 = 126) : s = s.take a ++ 126 :: s.drop (a + 1) := by
  have h1 : s[a] = 126 := by simpa [ha] using hc
  conv => lhs; rw [← List.take_append_drop a s, List.drop_eq_getElem_cons ha, h1]
/-- Cut at each c. -/
def splitL (c : UInt8) : Str → List Str
  | [] => [[]]
  | x :: s => if x = c then [] :: splitL c s else match splitL c s with | [] => [[x]] | p :: ps => (x :: p) :: ps
theorem index_c (c b : UInt8) (l : Str) : Lib.index (b :: l) [c] = if b = c then 0 else if Lib.index l [c] = -1 then -1 else Lib.index l [c] + 1 := by
  rw [Lib.index]
  by_cases h : b = c
  · subst h
    simp
  · have h2 : ¬ c = b := fun e => h e.symm
    simp [h, h2]
theorem split_lib (c : UInt8) : ∀ s : Str, Lib.splitK [c] 0 (Lib.count s [c]) s = splitL c s
  | [] => by
    have h : Lib.index [] [c] = -1 := by simp [Lib.index]
    rw [Lib.count_miss h]
    rfl
  | b :: l => by
    have ih := split_lib c l
    have hi := index_c c b l
    by_cases h : b = c
    · rw [if_pos h] at hi
      rw [Lib.count_hit (i := 0) (by simp) hi, Nat.add_comm, Lib.splitK, hi]
      simp only [splitL, if_pos h]
      rw [← ih]
      simp
    · rw [if_neg h] at hi
      by_cases hm : Lib.index l [c] = -1
      · rw [if_pos hm] at hi
        rw [Lib.count_miss hi]
        rw [Lib.count_miss hm] at ih
        simp only [splitL, if_neg h]
        rw [← ih]
        rfl
      · rw [if_neg hm] at hi
        have hge := Lib.index_ge l [c]
        obtain ⟨i, hi2⟩ : ∃ i : Nat, Lib.index l [c] = i := ⟨(Lib.index l [c]).toNat, by omega⟩
        rw [hi2] at hi
        rw [Lib.count_hit (i := i + 1) (by simp) hi, Nat.add_comm, Lib.splitK, hi]
        rw [Lib.count_hit (i := i) (by simp) hi2, Nat.add_comm, Lib.splitK, hi2] at ih
        have e1 : (((i : Int) == -1) : Bool) = false := by simp
        have e2 : (((i : Int) + 1 == -1) : Bool) = false := by simp; omega
        rw [e1] at ih
        rw [e2]
        simp only [splitL, if_neg h]
        rw [← ih]
        simp only [Bool.false_eq_true, if_false, Int.toNat_natCast, Nat.add_zero, List.length_singleton]
        rw [show ((i : Int) + 1).toNat = i + 1 by omega]
        simp
theorem splitL_count (c : UInt8) : ∀ s : Str, (splitL c s).length = Lib.count s [c] + 1
  | [] => by
    have h : Lib.index [] [c] = -1 := by simp [Lib.index]
    rw [Lib.count_miss h]
    rfl
  | b :: l => by
    have ih := splitL_count c l
    have hi := index_c c b l
    by_cases h : b = c
    · rw [if_pos h] at hi
      rw [Lib.count_hit (i := 0) (by simp) hi]
      simp only [splitL, if_pos h, List.length_cons, ih]
      simp
      omega
    · have hc : Lib.count (b :: l) [c] = Lib.count l [c] := by
        rw [if_neg h] at hi
        by_cases hm : Lib.index l [c] = -1
        · rw [if_pos hm] at hi
          rw [Lib.count_miss hi, Lib.count_miss hm]
        · rw [if_neg hm] at hi
          have hge := Lib.index_ge l [c]
          obtain ⟨i, hi2⟩ : ∃ i : Nat, Lib.index l [c] = i := ⟨(Lib.index l [c]).toNat, by omega⟩
          rw [hi2] at hi
          rw [Lib.count_hit (i := i + 1) (by simp) hi, Lib.count_hit (i := i) (by simp) hi2]
          simp
      rw [hc]
      simp only [splitL, if_neg h]
      cases hs : splitL c l with
      | nil => rw [hs] at ih; simp at ih
      | cons p ps => rw [hs] at ih; simpa using ih
theorem splitL_ne (c : UInt8) (s : Str) : splitL c s ≠ [] := fun h => by
  have := splitL_count c s
  rw [h] at this
  simp at this
theorem splitL_no (c : UInt8) : ∀ s : Str, (∀ x ∈ s, x ≠ c) → splitL c s = [s]
  | [], _ => rfl
  | x :: s, h => by
    rw [splitL, if_neg (h x (by simp)), splitL_no c s (fun y hy => h y (List.mem_cons_of_mem _ hy))]
theorem splitL_app (c : UInt8) : ∀ p s : Str, (∀ x ∈ p, x ≠ c) → splitL c (p ++ c :: s) = p :: splitL c s
  | [], s, _ => by simp [splitL]
  | x :: p, s, h => by
    rw [List.cons_append, splitL, if_neg (h x (by simp)), splitL_app c p s (fun y hy => h y (List.mem_cons_of_mem _ hy))]
/-- The first piece, and what is behind it. -/
theorem splitL_hd (c : UInt8) : ∀ s : Str, (∃ p t, s = p ++ c :: t ∧ (∀ x ∈ p, x ≠ c) ∧ splitL c s = p :: splitL c t) ∨ ((∀ x ∈ s, x ≠ c) ∧ splitL c s = [s])
  | [] => .inr ⟨by simp, rfl⟩
  | x :: s => by
    by_cases hx : x = c
    · exact .inl ⟨[], s, by simp [hx], by simp, by simp [splitL, hx]⟩
    · rcases splitL_hd c s with ⟨p, t, h1, h2, h3⟩ | ⟨h1, h2⟩
      · exact .inl ⟨x :: p, t, by simp [h1], by
          intro y hy
          rcases List.mem_cons.1 hy with rfl | hy
          · exact hx
          · exact h2 y hy, by rw [splitL, if_neg hx, h3]⟩
      · exact .inr ⟨by
          intro y hy
          rcases List.mem_cons.1 hy with rfl | hy
          · exact hx
          · exact h1 y hy, by rw [splitL, if_neg hx, h2]⟩
theorem splitL_len (c : UInt8) : ∀ (s : Str) (p : Str), p ∈ splitL c s → p.length ≤ s.length
  | [], p, hp => by
    simp [splitL] at hp
    simp [hp]
  | x :: s, p, hp => by
    rw [splitL] at hp
    have ih := splitL_len c s
    split at hp
    · rcases List.mem_cons.1 hp with rfl | hp
      · simp
      · have := ih p hp
        simp
        omega
    · cases hs : splitL c s with
      | nil => exact absurd hs (splitL_ne c s)
      | cons q qs =>
        rw [hs] at hp ih
        rcases List.mem_cons.1 hp with rfl | hp
        · have := ih q (by simp)
          simp
          omega
        · have := ih p (List.mem_cons_of_mem _ hp)
          simp
          omega
theorem splitL_nlen (c : UInt8) : ∀ s : Str, (splitL c s).length ≤ s.length + 1
  | [] => by simp [splitL]
  | x :: s => by
    have ih := splitL_nlen c s
    rw [splitL]
    split
    · simp
      omega
    · cases hs : splitL c s with
      | nil => simp
      | cons q qs =>
        rw [hs] at ih
        simp at ih ⊢
        omega
theorem split_vals (c : UInt8) (s : Str) : (Lib.splitB ⟨#[c]⟩ 0 (Lib.countB ⟨s.toArray⟩ ⟨#[c]⟩) ⟨s.toArray⟩).map Value.string = (splitL c s).map fun p => Value.string ⟨p.toArray⟩ := by
  have h := Lib.splitB_data ⟨#[c]⟩ 0 (Lib.countB ⟨s.toArray⟩ ⟨#[c]⟩) ⟨s.toArray⟩
  have h2 : Lib.splitK [c] 0 (Lib.count s [c]) s = splitL c s := split_lib c s
  simp only [Lib.countB] at h ⊢
  rw [h2] at h
  rw [← h, List.map_map]
  refine List.map_congr_left fun x _ => ?_
  obtain ⟨⟨l⟩⟩ := x
  rfl

theorem ow_tup2 {h : H} {x t1 : AV} {q : Bool} {G : Nat → Prop} (ho : Ow h [x] [.tup [t1, .bool q]] G) : ∃ y, x = .tup [y, .bool q] ∧ Ow h [y] [t1] G := by
  obtain ⟨cs, rfl, h1⟩ := ho.openTup
  have hl : cs.length = 2 := h1.len.symm
  match cs, hl, h1 with
  | [x1, x2], _, h1 =>
    obtain ⟨F, F', f1, f2, f3, f4⟩ := h1.uncons
    have e2 : x2 = .bool q := f2.atomOf rfl
    subst e2
    exact ⟨x1, rfl, f1.mono f3⟩

def openedV (s word : Str) : AV := if openOk s (beforeT s) = true ∧ (splitL 32 (beforeT s)).getD 0 [] = word then .tup [eS (some ((splitL 32 (beforeT s)).drop 1)), .bool true] else .tup [.nils, .bool false]
theorem free_openedV {s w : Str} : Free (openedV s w) := by
  unfold openedV
  split
  · exact free_tup (free_cons_ (free_eS_ (some _)) (free_cons_ free_bool free_nil_))
  · exact free_tup (free_cons_ free_nils (free_cons_ free_bool free_nil_))
theorem open_len {s : Str} (h : openOk s (beforeT s) = true) : (beforeT s).length ≤ 6000 := by
  simp only [openOk, plainV, Bool.and_eq_true, decide_eq_true_eq] at h
  omega

theorem mkN_congr {f g : Nat → Bool} : ∀ {n : Nat}, (∀ i, i < n → f i = g i) → mkN n f = mkN n g
  | 0, _ => rfl
  | n + 1, h => by
    rw [mkN_succ, mkN_succ, mkN_congr fun i hi => h i (by omega), h n (by omega)]

def pdT (p : Pd) (i : Nat) : Str := [112, 101, 101, 108, 101, 100, 32] ++ (Lib.itoa p.seed ++ (32 :: (Lib.itoa p.seg ++ (32 :: ((lI p.marks).take i).flatMap Lib.itoa))))
theorem pdT_succ {p : Pd} {i : Nat} (hi : i < (lI p.marks).length) : pdT p (i + 1) = pdT p i ++ Lib.itoa ((lI p.marks).getD i 0) := by
  unfold pdT
  rw [List.take_add_one, List.flatMap_append]
  simp [hi]
def inR (n : Int) : Prop := -9223372036854775808 ≤ n ∧ n ≤ 9223372036854775807
structure InP (p : Pd) : Prop where
  s : inR p.seed
  g : inR p.seg
  m : ∀ m ∈ lI p.marks, inR m
theorem itoa_len {n : Int} (h : inR n) : (Lib.itoa n).length ≤ 21 := Lib.itoa_length_le n h.1 h.2
theorem itoas_len : ∀ {l : List Int}, (∀ m ∈ l, inR m) → (l.flatMap Lib.itoa).length ≤ 21 * l.length
  | [], _ => by simp
  | m :: l, h => by
    rw [List.flatMap_cons, List.length_append, List.length_cons]
    have h1 := itoa_len (h m (by simp))
    have h2 := itoas_len fun x hx => h x (List.mem_cons_of_mem _ hx)
    omega
theorem pdT_len {p : Pd} (h : InP p) (i : Nat) (hi : i ≤ (lI p.marks).length) : (pdT p i).length ≤ 60 + 21 * (lI p.marks).length := by
  have h1 := itoa_len h.s
  have h2 := itoa_len h.g
  have h3 := itoas_len (l := (lI p.marks).take i) fun m hm => h.m m (List.mem_of_mem_take hm)
  rw [List.length_take] at h3
  unfold pdT
  simp only [List.length_append, List.length_cons, List.length_nil]
  omega
def imgPV (p : Pd) : AV := if okPd p then sealV (pdT p (lI p.marks).length) else .tup [.str [], .bool false]
theorem free_imgPV {p : Pd} : Free (imgPV p) := by
  unfold imgPV
  split
  · exact free_sealV
  · exact free_tup (free_cons_ free_str (free_cons_ free_bool free_nil_))
theorem okPd_in {p : Pd} (h : okPd p = true) : 0 ≤ p.seed ∧ p.seed ≤ 9999 ∧ 1 ≤ p.seg ∧ p.seg ≤ 24 ∧ (lI p.marks).length ≤ 72 ∧ ∀ i, 0 ≤ (lI p.marks).getD i 0 ∧ (lI p.marks).getD i 0 ≤ 3 := by
  have h1 := h
  simp only [okPd, Bool.and_eq_true, decide_eq_true_eq] at h1
  obtain ⟨⟨a1, a2⟩, ⟨b1, b2⟩, c1, hm⟩ := h1
  refine ⟨a1, a2, b1, b2, by omega, fun i => ?_⟩
  by_cases hi : i < (lI p.marks).length
  · unfold okMarks at hm
    have := List.all_eq_true.1 hm ((lI p.marks).getD i 0) (by simp [hi])
    simpa using this
  · have : (lI p.marks).getD i 0 = 0 := by simp [show (lI p.marks).length ≤ i by omega]
    omega

--eng eSp cSp ld7_5 ld7_3 ld7_0
structure Spa where
  count : Int
  limit : Int
  width : Int
  low : Bt
  high : Bt
def cSp (s : Spa) : List AV := [.int .i64 s.count, .int .i64 s.limit, .int .i64 s.width, .int .i64 s.low.size, eI s.low.words, .int .i64 s.high.size, eI s.high.words]
def eSp (s : Spa) : AV := .agg (cSp s)
theorem free_cSp {s : Spa} : ∀ c ∈ cSp s, Free c := free_cons_ free_int (free_cons_ free_int (free_cons_ free_int (free_cons_ free_int (free_cons_ free_eI (free_cons_ free_int (free_cons_ free_eI free_nil_))))))
theorem free_eSp {s : Spa} : Free (eSp s) := free_agg free_cSp
theorem ld7_5 {a b c d e f g : AV} : ld true 2 [a, b, c, d, e, f, g] 5 = some (.agg [f, g]) := rfl
theorem ld7_3 {a b c d e f g : AV} : ld true 2 [a, b, c, d, e, f, g] 3 = some (.agg [d, e]) := rfl
theorem ld7_0 {a b c d e f g : AV} : ld true 7 [a, b, c, d, e, f, g] 0 = some (.agg [a, b, c, d, e, f, g]) := rfl
theorem shlN {a b : Nat} (hb : b ≤ 40) (ha : a * 2 ^ b < 4611686018427387904) : IntKind.i64.wrap ((a : Int) * 2 ^ (min b IntKind.i64.bits)) = ((a * 2 ^ b : Nat) : Int) := by
  have e : min b IntKind.i64.bits = b := by
    simp [IntKind.bits]
    omega
  rw [e]
  have h2 : (a : Int) * 2 ^ b = ((a * 2 ^ b : Nat) : Int) := by simp
  rw [h2]
  simp only [IntKind.wrap, IntKind.signed, IntKind.bits]
  simp
  omega
theorem shrN {a b : Nat} (hb : b ≤ 40) : Int.fdiv (a : Int) (2 ^ (min b IntKind.i64.bits)) = ((a / 2 ^ b : Nat) : Int) := by
  have e : min b IntKind.i64.bits = b := by
    simp [IntKind.bits]
    omega
  rw [e]
  have h2 : (2 : Int) ^ b = ((2 ^ b : Nat) : Int) := by simp
  rw [h2, ← Int.ofNat_fdiv]
/-- The width. -/
def widF (m l : Nat) : Nat → Nat → Nat
  | 0, w => w
  | f + 1, w => if m * 2 ^ (w + 1) ≤ l then widF m l f (w + 1) else w
def wid (c l : Nat) : Nat := widF (max c 1) l 20 0
theorem widF_le {m l : Nat} (hm : 1 ≤ m) (hl : l ≤ 100000) : ∀ f w, w ≤ 16 → widF m l f w ≤ 16
  | 0, w, h => h
  | f + 1, w, h => by
    rw [widF]
    split
    · rename_i hc
      refine widF_le hm hl f (w + 1) ?_
      rcases Nat.lt_or_ge w 16 with h5 | h5
      · omega
      · have h6 : w = 16 := by omega
        subst h6
        have : 1 * 2 ^ 17 ≤ m * 2 ^ 17 := Nat.mul_le_mul_right _ hm
        omega
    · exact h
theorem wid_le {c l : Nat} (hl : l ≤ 100000) : wid c l ≤ 16 := widF_le (by omega) hl 20 0 (by omega)
theorem wid_lt {m l w : Nat} (hm : 1 ≤ m) (hl : l ≤ 100000) (h : m * 2 ^ (w + 1) ≤ l) : w < 16 := by
  rcases Nat.lt_or_ge w 16 with h5 | h5
  · exact h5
  · have h1 : 2 ^ 17 ≤ 2 ^ (w + 1) := Nat.pow_le_pow_right (by decide) (by omega)
    have h2 : 1 * 2 ^ (w + 1) ≤ m * 2 ^ (w + 1) := Nat.mul_le_mul_right _ hm
    omega
def limOk (l : Int) : Bool := decide (1 ≤ l) && decide (l ≤ 100000)
/-- A field. -/
def fldN (B a w : Nat) : Nat := (B >>> a) % 2 ^ w
theorem fldN_lt {B a w : Nat} : fldN B a w < 2 ^ w := Nat.mod_lt _ (Nat.two_pow_pos _)
theorem fldN_down {B a k : Nat} : fldN B a (k + 1) = 2 * fldN B (a + 1) k + (if B.testBit a then 1 else 0) := by
  unfold fldN
  have h1 : (if B.testBit a then 1 else 0) = B >>> a % 2 := by
    rw [Nat.testBit_eq_decide_div_mod_eq, Nat.shiftRight_eq_div_pow]
    rcases Nat.mod_two_eq_zero_or_one (B / 2 ^ a) with h | h <;> simp [h]
  rw [h1, Nat.pow_succ, Nat.mul_comm (2 ^ k) 2, Nat.mod_mul, Nat.add_comm]
  rfl
theorem fldN_up {B a k : Nat} : fldN B a (k + 1) = fldN B a k ||| (if B.testBit (a + k) then 2 ^ k else 0) := by
  refine Nat.eq_of_testBit_eq fun j => ?_
  unfold fldN
  rw [Nat.testBit_or, Nat.testBit_mod_two_pow, Nat.testBit_mod_two_pow, Nat.testBit_shiftRight]
  cases hb : B.testBit (a + k)
  · by_cases hj : j = k
    · subst hj
      simp [hb]
    · simp
      have : (j < k + 1) = (j < k) := by rw [eq_iff_iff]; omega
      simp [this]
  · by_cases hj : j = k
    · subst hj
      simp [hb]
    · have h1 : (j < k + 1) = (j < k) := by rw [eq_iff_iff]; omega
      simp [h1, Nat.testBit_two_pow, Ne.symm hj]

attribute [push_cast] eSp cSp ld7_5 ld7_3 ld7_0
theorem c_spec_spLimit (l : Int) : Fn Tryz.prog 54 [.int .i64 l] (· = .bool (limOk l)) := by
  refine Fn.of free_bool fun h => ?_
  refine enter (by kernel_rfl) e54 (by kernel_rfl) rfl fun hok => ?_
  simp only [r54, initEnv_1]
  (try (simp (disch := first | omega | (simp <;> omega) | fail) only [push_cast, ↓reduceIte, Nat.reduceEqDiff, Nat.reduceAdd, Nat.reduceMul, Nat.reduceSub, Nat.reduceLT, Int.reduceToNat]))
  refine (c_spec_l1In _ _ _).call ?_
  (try (simp (disch := first | omega | (simp <;> omega) | fail) only [push_cast, ↓reduceIte, Nat.reduceEqDiff, Nat.reduceAdd, Nat.reduceMul, Nat.reduceSub, Nat.reduceLT, Int.reduceToNat]))
  all_goals (try rfl)

def srtP (L : List Int) (lim : Int) (i : Nat) : Bool := (List.range i).all fun j => (decide (0 ≤ L.getD j 0) && decide (L.getD j 0 ≤ lim - 1)) && !(decide (0 < (j : Int)) && decide (L.getD j 0 < L.getD (j - 1) 0))
theorem srtP_succ {L : List Int} {lim : Int} {i : Nat} : srtP L lim (i + 1) = (srtP L lim i && ((decide (0 ≤ L.getD i 0) && decide (L.getD i 0 ≤ lim - 1)) && !(decide (0 < (i : Int)) && decide (L.getD i 0 < L.getD (i - 1) 0)))) := by
  unfold srtP
  rw [List.range_succ, List.all_append]
  simp
theorem srtP_no {L : List Int} {lim : Int} {i n : Nat} (hi : i < n) (hf : srtP L lim (i + 1) = false) : srtP L lim n = false := by
  unfold srtP at hf ⊢
  rw [List.all_eq_false] at hf ⊢
  obtain ⟨x, hx, hp⟩ := hf
  exact ⟨x, by simp at hx ⊢; omega, hp⟩
def srt (L : List Int) (lim : Int) : Bool := srtP L lim L.length && (decide ((L.length : Int) ≤ 60) && limOk lim)
theorem srt_in {L : List Int} {lim : Int} (h : srt L lim = true) : L.length ≤ 60 ∧ 1 ≤ lim ∧ lim ≤ 100000 ∧ ∀ i, i < L.length → 0 ≤ L.getD i 0 ∧ L.getD i 0 ≤ lim - 1 := by
  simp only [srt, limOk, Bool.and_eq_true, decide_eq_true_eq] at h
  refine ⟨by omega, h.2.2.1, h.2.2.2, fun i hi => ?_⟩
  have := h.1
  unfold srtP at this
  rw [List.all_eq_true] at this
  have := this i (List.mem_range.2 hi)
  simp only [Bool.and_eq_true, decide_eq_true_eq] at this
  exact this.1

theorem c_spec_spSorted (o : Option (List Int)) (lim : Int) (h0 : -1000000000000 ≤ lim) (h9 : lim ≤ 9223372036854775807) : Fn Tryz.prog 33 [eI o, .int .i64 lim] (· = .bool (srt (lI o) lim)) := by
  refine Fn.of free_bool fun h => ?_
  refine enter (by kernel_rfl) e33 (by kernel_rfl) rfl fun hok => ?_
  simp only [r33, initEnv_2]
  have hlen := ok_eI (okV_0 hok)
  (try (simp (disch := first | omega | (simp <;> omega) | fail) only [push_cast, ↓reduceIte, Nat.reduceEqDiff, Nat.reduceAdd, Nat.reduceMul, Nat.reduceSub, Nat.reduceLT, Int.reduceToNat]))
  refine T_for (lI o).length (fun i e h' => Pins e [(0, eI o), (1, .int .i64 lim), (7, eI o), (8, .int .i64 (lI o).length), (9, .int .i64 i)] ∧ h' = h ∧ srtP (lI o) lim i = true) ?_ ?_
  · (try (simp (disch := first | omega | (simp <;> omega) | fail) only [push_cast, ↓reduceIte, Nat.reduceEqDiff, Nat.reduceAdd, Nat.reduceMul, Nat.reduceSub, Nat.reduceLT, Int.reduceToNat]))
    all_goals (try rfl)
  rintro i e h' hi ⟨hp, rfl, ha⟩
  refine T_pins hp fun e => ?_
  (try (simp (disch := first | omega | (simp <;> omega) | fail) only [push_cast, ↓reduceIte, Nat.reduceEqDiff, Nat.reduceAdd, Nat.reduceMul, Nat.reduceSub, Nat.reduceLT, Int.reduceToNat]))
  first | refine goC_split (fun hc => ?_) (fun hc => ?_) | refine cnd_split (fun hc => ?_) (fun hc => ?_)
  · (try (simp only [decide_eq_true_eq, decide_eq_false_iff_not, Bool.not_eq_true', Bool.not_eq_false', Bool.and_eq_true, Bool.or_eq_true, Int.not_lt, Int.not_le] at hc)); (try (simp (disch := first | omega | (simp <;> omega) | fail) only [push_cast, ↓reduceIte, Nat.reduceEqDiff, Nat.reduceAdd, Nat.reduceMul, Nat.reduceSub, Nat.reduceLT, Int.reduceToNat]))
    have hi2 : i < (lI o).length := by omega
    have hsu := srtP_succ (L := lI o) (lim := lim) (i := i)
    rw [ha] at hsu
    have hbad : srtP (lI o) lim (i + 1) = false → srt (lI o) lim = false := fun h5 => by
      unfold srt
      rw [srtP_no hi2 h5]
      rfl
    (try (simp (disch := first | omega | (simp <;> omega) | fail) only [push_cast, ↓reduceIte, Nat.reduceEqDiff, Nat.reduceAdd, Nat.reduceMul, Nat.reduceSub, Nat.reduceLT, Int.reduceToNat]))
    refine (c_spec_l1In _ _ _).call ?_
    cases hin : (decide (0 ≤ (lI o).getD i 0) && decide ((lI o).getD i 0 ≤ lim - 1))
    · rw [hin] at hsu
      rw [hbad (by rw [hsu]; rfl)]
      (try (simp (disch := first | omega | (simp <;> omega) | fail) only [push_cast, ↓reduceIte, Nat.reduceEqDiff, Nat.reduceAdd, Nat.reduceMul, Nat.reduceSub, Nat.reduceLT, Int.reduceToNat]))
    rw [hin] at hsu
    by_cases h0i : 0 < i
    · have e1 : ((i : Int) - 1).toNat = i - 1 := by omega
      have hd1 : decide (0 < (i : Int)) = true := by simp [h0i]
      rw [hd1] at hsu
      by_cases hlt : (lI o).getD i 0 < (lI o).getD (i - 1) 0
      · rw [hbad (by rw [hsu, decide_eq_true hlt]; rfl)]
        (try (simp (disch := first | omega | (simp <;> omega) | fail) only [push_cast, ↓reduceIte, Nat.reduceEqDiff, Nat.reduceAdd, Nat.reduceMul, Nat.reduceSub, Nat.reduceLT, Int.reduceToNat, e1, hlt]))
      · have hgo : srtP (lI o) lim (i + 1) = true := by rw [hsu, decide_eq_false hlt]; rfl
        (try (simp (disch := first | omega | (simp <;> omega) | fail) only [push_cast, ↓reduceIte, Nat.reduceEqDiff, Nat.reduceAdd, Nat.reduceMul, Nat.reduceSub, Nat.reduceLT, Int.reduceToNat, e1, hlt]))
        all_goals (try exact hgo)
    · have h0 : i = 0 := by omega
      have hd1 : decide (0 < (i : Int)) = false := by simp; omega
      have hgo : srtP (lI o) lim (i + 1) = true := by rw [hsu, hd1]; rfl
      (try (simp (disch := first | omega | (simp <;> omega) | fail) only [push_cast, ↓reduceIte, Nat.reduceEqDiff, Nat.reduceAdd, Nat.reduceMul, Nat.reduceSub, Nat.reduceLT, Int.reduceToNat]))
      all_goals (try exact hgo)
  · (try (simp only [decide_eq_true_eq, decide_eq_false_iff_not, Bool.not_eq_true', Bool.not_eq_false', Bool.and_eq_true, Bool.or_eq_true, Int.not_lt, Int.not_le] at hc)); (try (simp (disch := first | omega | (simp <;> omega) | fail) only [push_cast, ↓reduceIte, Nat.reduceEqDiff, Nat.reduceAdd, Nat.reduceMul, Nat.reduceSub, Nat.reduceLT, Int.reduceToNat]))
    have hie : i = (lI o).length := by omega
    subst hie
    unfold srt
    rw [ha]
    by_cases h60 : ((lI o).length : Int) ≤ 60
    · (try (simp (disch := first | omega | (simp <;> omega) | fail) only [push_cast, ↓reduceIte, Nat.reduceEqDiff, Nat.reduceAdd, Nat.reduceMul, Nat.reduceSub, Nat.reduceLT, Int.reduceToNat, h60]))
      refine (c_spec_spLimit lim).call ?_
      (try (simp (disch := first | omega | (simp <;> omega) | fail) only [push_cast, ↓reduceIte, Nat.reduceEqDiff, Nat.reduceAdd, Nat.reduceMul, Nat.reduceSub, Nat.reduceLT, Int.reduceToNat]))
    · rw [decide_eq_false h60]
      (try (simp (disch := first | omega | (simp <;> omega) | fail) only [push_cast, ↓reduceIte, Nat.reduceEqDiff, Nat.reduceAdd, Nat.reduceMul, Nat.reduceSub, Nat.reduceLT, Int.reduceToNat, h60]))

theorem c_spec_spWidth (c l : Nat) (hc : c ≤ 60) (hl : l ≤ 100000) : Fn Tryz.prog 55 [.int .i64 c, .int .i64 l] (· = .int .i64 (wid c l)) := by
  refine Fn.of free_int fun h => ?_
  refine enter (by kernel_rfl) e55 (by kernel_rfl) rfl fun hok => ?_
  simp only [r55, initEnv_2]
  have hm : (if (1 : Int) < (c : Int) then (c : Int) else 1) = ((max c 1 : Nat) : Int) := by split <;> omega
  obtain ⟨m, hmd⟩ : ∃ m, m = max c 1 := ⟨_, rfl⟩
  rw [← hmd] at hm
  have hm1 : 1 ≤ m ∧ m ≤ 60 := by omega
  (try (simp (disch := first | omega | (simp <;> omega) | fail) only [push_cast, ↓reduceIte, Nat.reduceEqDiff, Nat.reduceAdd, Nat.reduceMul, Nat.reduceSub, Nat.reduceLT, Int.reduceToNat]))
  refine T_for 17 (fun i e h' => Pins e [(0, .int .i64 c), (1, .int .i64 l), (5, .int .i64 i)] ∧ h' = h ∧ i ≤ 16 ∧ widF m l (20 - i) i = wid c l) ?_ ?_
  · (try (simp (disch := first | omega | (simp <;> omega) | fail) only [push_cast, ↓reduceIte, Nat.reduceEqDiff, Nat.reduceAdd, Nat.reduceMul, Nat.reduceSub, Nat.reduceLT, Int.reduceToNat]))
    all_goals (try (unfold wid; rw [← hmd]))
  rintro i e h' hi ⟨hp, rfl, hi6, hw⟩
  refine T_pins hp fun e => ?_
  have hpw : 2 ^ (i + 1) ≤ 2 ^ 17 := Nat.pow_le_pow_right (by decide) (by omega)
  have hml : m * 2 ^ (i + 1) ≤ 60 * 2 ^ 17 := Nat.mul_le_mul hm1.2 hpw
  have hsh : IntKind.i64.wrap ((m : Int) * 2 ^ (min (i + 1) IntKind.i64.bits)) = ((m * 2 ^ (i + 1) : Nat) : Int) := by
    have := shlN (a := m) (b := i + 1) (by omega) (by omega)
    simpa using this
  (try (simp (disch := first | omega | (simp <;> omega) | fail) only [push_cast, ↓reduceIte, Nat.reduceEqDiff, Nat.reduceAdd, Nat.reduceMul, Nat.reduceSub, Nat.reduceLT, Int.reduceToNat]))
  refine (c_spec_l1Most _ _).call ?_
  rw [hm]
  obtain ⟨g, hg⟩ : ∃ g, g = m * 2 ^ (i + 1) := ⟨_, rfl⟩
  rw [← hg] at hsh hml
  have hwf : widF m l (20 - i) i = if g ≤ l then widF m l (20 - (i + 1)) (i + 1) else i := by
    rw [show 20 - i = (20 - (i + 1)) + 1 by omega, widF, ← hg]
  (try (simp (disch := first | omega | (simp <;> omega) | fail) only [push_cast, ↓reduceIte, Nat.reduceEqDiff, Nat.reduceAdd, Nat.reduceMul, Nat.reduceSub, Nat.reduceLT, Int.reduceToNat, hsh]))
  first | refine goC_split (fun hc => ?_) (fun hc => ?_) | refine cnd_split (fun hc => ?_) (fun hc => ?_)
  · (try (simp only [decide_eq_true_eq, decide_eq_false_iff_not, Bool.not_eq_true', Bool.not_eq_false', Bool.and_eq_true, Bool.or_eq_true, Int.not_lt, Int.not_le] at hc)); (try (simp (disch := first | omega | (simp <;> omega) | fail) only [push_cast, ↓reduceIte, Nat.reduceEqDiff, Nat.reduceAdd, Nat.reduceMul, Nat.reduceSub, Nat.reduceLT, Int.reduceToNat]))
    have hgl : g ≤ l := by omega
    have hlt := wid_lt hm1.1 hl (by rw [← hg]; exact hgl)
    rw [if_pos hgl] at hwf
    (try (simp (disch := first | omega | (simp <;> omega) | fail) only [push_cast, ↓reduceIte, Nat.reduceEqDiff, Nat.reduceAdd, Nat.reduceMul, Nat.reduceSub, Nat.reduceLT, Int.reduceToNat]))
    all_goals (try exact ⟨by omega, hwf.symm.trans hw⟩)
    all_goals (try exact hwf.symm.trans hw)
  · (try (simp only [decide_eq_true_eq, decide_eq_false_iff_not, Bool.not_eq_true', Bool.not_eq_false', Bool.and_eq_true, Bool.or_eq_true, Int.not_lt, Int.not_le] at hc)); (try (simp (disch := first | omega | (simp <;> omega) | fail) only [push_cast, ↓reduceIte, Nat.reduceEqDiff, Nat.reduceAdd, Nat.reduceMul, Nat.reduceSub, Nat.reduceLT, Int.reduceToNat]))
    rw [if_neg (by omega)] at hwf
    rw [← hw, hwf]

def natI (L : List Nat) : List Int := L.map fun n : Nat => (n : Int)
theorem natI_len {L : List Nat} : (natI L).length = L.length := by simp [natI]
/-- The numbers that are told by the first so many bits. -/
def spL (hb lb w cnt : Nat) : Nat → List Nat
  | 0 => []
  | p + 1 => if hb.testBit p = true ∧ (spL hb lb w cnt p).length < cnt then spL hb lb w cnt p ++ [(p - (spL hb lb w cnt p).length) * 2 ^ w + fldN lb ((spL hb lb w cnt p).length * w) w] else spL hb lb w cnt p
theorem spL_len {hb lb w cnt : Nat} : ∀ p, (spL hb lb w cnt p).length ≤ p ∧ (spL hb lb w cnt p).length ≤ cnt
  | 0 => by simp [spL]
  | p + 1 => by
    have := spL_len (hb := hb) (lb := lb) (w := w) (cnt := cnt) p
    rw [spL]
    split
    · rename_i h
      simp
      omega
    · omega
theorem spL_full {hb lb w cnt p : Nat} (h : ¬ (spL hb lb w cnt p).length < cnt) : ∀ q, spL hb lb w cnt (p + q) = spL hb lb w cnt p
  | 0 => rfl
  | q + 1 => by
    have ih := spL_full h q
    rw [show p + (q + 1) = (p + q) + 1 by omega, spL, ih, if_neg (fun h5 => h h5.2)]
/-- A list of numbers that grows, in memory of the call's own from n0 on. -/
def LsI (n0 : Nat) (h' : H) (v : AV) (L : List Nat) : Prop := n0 ≤ h'.length ∧ ∃ B, S1 h' 1 v L.length ((natI L).map (.int .i64)) B ∧ ∀ k ∈ B, n0 ≤ k
theorem LsI.len {n0 : Nat} {h' : H} {v : AV} {L : List Nat} (hs : LsI n0 h' v L) : lenA v = some (.int .i64 L.length) := by
  obtain ⟨_, B, hs, _⟩ := hs
  rcases hs.2 with ⟨rfl, h0, _⟩ | ⟨b, rfl, _⟩
  · rw [h0]
    rfl
  · rfl
theorem LsI.app {n0 : Nat} {h' : H} {v : AV} {L : List Nat} {x : Nat} {pm : Nat → Prop} {Q : AV → H → Prop} (hs : LsI n0 h' v L) (hpm : ∀ c, n0 ≤ c → pm c) (hL : L.length ≤ 1000000)
    (hQ : ∀ v' h'', LsI n0 h'' v' (L ++ [x]) → (∀ c, c < n0 → h''[c]? = h'[c]?) → h'.length ≤ h''.length → Q v' h'') : apA pm (h' ++ [some (.cells [.int .i64 (x : Int)])]) Q 1 8 (some ([.int .i64 (x : Int)], 1)) v := by
  obtain ⟨hn, B, hs, hB⟩ := hs
  have hs2 := hs.frame (h' := h' ++ [some (.cells [.int .i64 (x : Int)])]) fun c hc => List.getElem?_append_left (hs.lt c hc)
  refine hs2.app (fun c hc => hpm c (hB c hc)) rfl (by decide) (by omega) fun v' h'' B' q1 q2 q3 q4 => ?_
  simp only [List.length_append, List.length_cons, List.length_nil] at q2 q4
  refine hQ v' h'' ⟨by omega, B', by simpa [natI] using q1, fun k hk => ?_⟩ (fun c hc => ?_) (by omega)
  · rcases q4 k hk with h5 | h5
    · exact hB k h5
    · omega
  · rw [q3 c (by simp; omega) (fun hb => by have := hB c hb; omega)]
    exact List.getElem?_append_left (by omega)
theorem LsI.vw {n0 n : Nat} {h' : H} {v : AV} {L : List Nat} (hs : LsI n0 h' v L) (hn : n ≤ n0) : ∃ o, Vw h' n v (eI o) ∧ lI o = natI L := by
  obtain ⟨_, B, hs, hB⟩ := hs
  rcases hs.2 with ⟨rfl, h0, _⟩ | ⟨b, rfl, hb, hcb⟩
  · have : L = [] := List.length_eq_zero_iff.1 h0
    subst this
    exact ⟨none, .free free_nils, rfl⟩
  · refine ⟨some (natI L), ?_, rfl⟩
    have := vw_all (n := n) (kc := L.length) (sz := 1) (len := L.length) (by have := hB b (by rw [hb]; simp); omega) hcb (by simp [natI]) (one_map fun _ => rfl) (free_map_ fun _ => free_int)
    simpa [eI, natI] using this
/-- What is right of the counts and sizes of such a vector. -/
structure SpO (s : Spa) (lb ml hb mh cnt w n : Nat) : Prop where
  low : lI s.low.words = wordsN lb ml
  high : lI s.high.words = wordsN hb mh
  count : s.count = (cnt : Int)
  width : s.width = (w : Int)
  hsize : s.high.size = (n : Int)
  cw : cnt * w ≤ 16 * ml
  nh : n ≤ 16 * mh
  c60 : cnt ≤ 60
  w16 : w ≤ 16
  n4 : n ≤ 4096
  ml1 : ml ≤ 1000
  mh1 : mh ≤ 1000

def lowG (L : List Nat) (w p : Nat) : Bool := (L.getD (p / w) 0).testBit (p % w)
def hiG (L : List Nat) (w i p : Nat) : Bool := (List.range i).any fun j => decide (L.getD j 0 / 2 ^ w + j = p)
def hiS (n lim w : Nat) : Nat := n + (lim - 1) / 2 ^ w + 1
def lowB (L : List Nat) (w : Nat) : Bt := ⟨((L.length * w : Nat) : Int), some (wordsN (mkN (L.length * w) (lowG L w)) ((L.length * w + 15) / 16))⟩
def hiB (L : List Nat) (lim w : Nat) : Bt := ⟨((hiS L.length lim w : Nat) : Int), some (wordsN (mkN (hiS L.length lim w) (hiG L w L.length)) ((hiS L.length lim w + 15) / 16))⟩
def spV (L : List Nat) (lim : Nat) : Spa := ⟨L.length, lim, wid L.length lim, lowB L (wid L.length lim), hiB L lim (wid L.length lim)⟩
theorem lowG_at {L : List Nat} {w i j : Nat} (hj : j < w) : lowG L w (i * w + j) = (L.getD i 0).testBit j := by
  unfold lowG
  have h1 : (i * w + j) / w = i := by
    rw [Nat.mul_comm, Nat.mul_add_div (by omega), Nat.div_eq_of_lt hj]
    rfl
  have h2 : (i * w + j) % w = j := by
    rw [Nat.mul_comm, Nat.mul_add_mod, Nat.mod_eq_of_lt hj]
  rw [h1, h2]
/-- The numbers' low parts serve as well as the numbers. -/
theorem lowG_mod {L : List Nat} {w p : Nat} (h0 : 0 < w) : lowG (L.map (· % 2 ^ w)) w p = lowG L w p := by
  unfold lowG
  have h1 : (L.map (· % 2 ^ w)).getD (p / w) 0 = L.getD (p / w) 0 % 2 ^ w := by
    simp only [List.getD_eq_getElem?_getD, List.getElem?_map]
    cases L[p / w]? <;> simp
  rw [h1, Nat.testBit_mod_two_pow]
  have := Nat.mod_lt p h0
  simp [this]
theorem hiG_succ {L : List Nat} {w i p : Nat} : hiG L w (i + 1) p = (hiG L w i p || decide (L.getD i 0 / 2 ^ w + i = p)) := by
  unfold hiG
  rw [List.range_succ, List.any_append]
  simp
theorem hi_step {L : List Nat} {w i hs : Nat} (hq : L.getD i 0 / 2 ^ w + i < hs) : setB (mkN hs (hiG L w i)) (L.getD i 0 / 2 ^ w + i) true = mkN hs (hiG L w (i + 1)) := by
  refine Nat.eq_of_testBit_eq fun j => ?_
  rw [setB_bit, mkN_bit, mkN_bit, hiG_succ]
  generalize L.getD i 0 / 2 ^ w + i = q at *
  by_cases hj : j = q
  · subst hj
    simp [hq]
  · rw [if_neg hj, decide_eq_false (Ne.symm hj)]
    simp
theorem hi_zero {L : List Nat} {w hs : Nat} : mkN hs (hiG L w 0) = 0 := by
  refine Nat.eq_of_testBit_eq fun j => ?_
  rw [mkN_bit]
  simp [hiG]
theorem hi_lt {L : List Nat} {lim w i : Nat} (hi : i < L.length) (hn : L.getD i 0 < lim) : L.getD i 0 / 2 ^ w + i < hiS L.length lim w := by
  have : L.getD i 0 / 2 ^ w ≤ (lim - 1) / 2 ^ w := Nat.div_le_div_right (by omega)
  unfold hiS
  omega
theorem widF_stop {m l : Nat} (hm : 1 ≤ m) (hl : l ≤ 100000) : ∀ f w, w ≤ 16 → 17 ≤ f + w → l < m * 2 ^ (widF m l f w + 1)
  | 0, w, h1, h2 => by omega
  | f + 1, w, h1, h2 => by
    rw [widF]
    split
    · rename_i hc
      have := wid_lt hm hl hc
      exact widF_stop hm hl f (w + 1) (by omega) (by omega)
    · rename_i hc
      omega
theorem hiS_le {n lim : Nat} (hn : n ≤ 60) (hl : lim ≤ 100000) : hiS n lim (wid n lim) ≤ 200 := by
  have h1 := widF_stop (m := max n 1) (l := lim) (by omega) hl 20 0 (by omega) (by omega)
  have h2 : (lim - 1) / 2 ^ wid n lim < 2 * max n 1 := by
    refine Nat.div_lt_of_lt_mul ?_
    have h3 : 2 ^ (wid n lim + 1) = 2 ^ wid n lim * 2 := Nat.pow_succ _ _
    have h4 : lim < max n 1 * (2 ^ wid n lim * 2) := by rw [← h3]; exact h1
    have h5 : max n 1 * (2 ^ wid n lim * 2) = 2 ^ wid n lim * (2 * max n 1) := by
      rw [Nat.mul_comm 2 (max n 1), ← Nat.mul_assoc, ← Nat.mul_assoc, Nat.mul_comm (max n 1)]
    omega
  unfold hiS
  omega

def BL (n : Nat) (g : Nat → Bool) : List Bool := (List.range n).map g
theorem BL_len {n : Nat} {g : Nat → Bool} : (BL n g).length = n := by simp [BL]
theorem BL_get {n p : Nat} {g : Nat → Bool} (hp : p < n) : (BL n g).getD p false = g p := by simp [BL, hp]
theorem BL_set {n q : Nat} {g : Nat → Bool} {x : Bool} (f : Nat → Bool) (hf : ∀ p, p < n → f p = if p = q then x else g p) : ((BL n g).map AV.bool).set q (.bool x) = (BL n f).map .bool := by
  refine List.ext_getElem? fun p => ?_
  rw [List.getElem?_set]
  simp only [BL, List.map_map, List.getElem?_map, List.length_map, List.length_range]
  by_cases hp : p < n
  · rw [List.getElem?_range hp]
    simp only [Option.map_some, Function.comp]
    rw [hf p hp]
    by_cases hq : q = p
    · subst hq
      simp [hp]
    · rw [if_neg hq, if_neg (Ne.symm hq)]
  · have h1 : (List.range n)[p]? = none := by simp; omega
    rw [h1]
    by_cases hq : q = p
    · subst hq
      simp [hp]
    · rw [if_neg hq]
      rfl
theorem BL_rep {n : Nat} {g : Nat → Bool} (hg : ∀ p, g p = false) : List.replicate n (AV.bool false) = (BL n g).map .bool := by
  unfold BL
  rw [List.map_map]
  refine List.ext_getElem? fun p => ?_
  rw [List.getElem?_replicate, List.getElem?_map]
  by_cases hp : p < n
  · rw [if_pos hp, List.getElem?_range hp]
    simp [hg]
  · rw [if_neg hp]
    have h1 : (List.range n)[p]? = none := by simp; omega
    rw [h1]
    rfl

theorem c_spec_biPut (n a w v b : Nat) (g : Nat → Bool) (h : H) (hb : h.cells b = some ((BL n fun p => decide (p < a) && g p).map .bool)) (hv : v < 65536) (hw : w ≤ 16) (hg : ∀ j, j < w → v.testBit j = g (a + j)) (ha : a + w ≤ n) (hn : n ≤ 1000000) :
    Call Tryz.prog 74 [.sl b 0 1 n n, .int .i64 a, .int .i64 w, .int .i64 v] h (fun b' => b' = b) (fun x h' => h'.length = h.length ∧ (∀ c, c ≠ b → h'[c]? = h[c]?) ∧ h'.cells b = some ((BL n fun p => decide (p < a + w) && g p).map .bool)) := by
  refine enter (by kernel_rfl) e74 (by kernel_rfl) rfl fun hok => ?_
  simp only [r74, initEnv_4]
  (try (simp (disch := first | omega | (simp <;> omega) | fail) only [push_cast, ↓reduceIte, Nat.reduceEqDiff, Nat.reduceAdd, Nat.reduceMul, Nat.reduceSub, Nat.reduceLT, Int.reduceToNat]))
  refine T_for w (fun i e h' => Pins e [(0, .sl b 0 1 n n), (1, .int .i64 a), (2, .int .i64 w), (3, .int .i64 v), (8, .int .i64 i)] ∧ (h'.length = h.length ∧ (∀ c, c ≠ b → h'[c]? = h[c]?)) ∧ h'.cells b = some ((BL n fun p => decide (p < a + i) && g p).map .bool)) ?_ ?_
  · (try (simp (disch := first | omega | (simp <;> omega) | fail) only [push_cast, ↓reduceIte, Nat.reduceEqDiff, Nat.reduceAdd, Nat.reduceMul, Nat.reduceSub, Nat.reduceLT, Int.reduceToNat]))
    all_goals (try exact hb)
    all_goals (try exact ⟨fun _ _ => trivial, hb⟩)
  rintro i e h' hi ⟨hp, ⟨q1, q2⟩, q3⟩
  refine T_pins hp fun e => ?_
  (try (simp (disch := first | omega | (simp <;> omega) | fail) only [push_cast, ↓reduceIte, Nat.reduceEqDiff, Nat.reduceAdd, Nat.reduceMul, Nat.reduceSub, Nat.reduceLT, Int.reduceToNat]))
  first | refine goC_split (fun hc => ?_) (fun hc => ?_) | refine cnd_split (fun hc => ?_) (fun hc => ?_)
  · (try (simp only [decide_eq_true_eq, decide_eq_false_iff_not, Bool.not_eq_true', Bool.not_eq_false', Bool.and_eq_true, Bool.or_eq_true, Int.not_lt, Int.not_le] at hc)); (try (simp (disch := first | omega | (simp <;> omega) | fail) only [push_cast, ↓reduceIte, Nat.reduceEqDiff, Nat.reduceAdd, Nat.reduceMul, Nat.reduceSub, Nat.reduceLT, Int.reduceToNat]))
    have hi2 : i < w := by omega
    have hab := at_bit (x := v) (j := i) hv (by omega)
    rw [hg i hi2] at hab
    have hbl := cells_lt q3
    have hst : ((BL n fun p => decide (p < a + i) && g p).map AV.bool).set (a + i) (.bool (g (a + i))) = (BL n fun p => decide (p < a + (i + 1)) && g p).map .bool := BL_set _ fun p hp => by
      by_cases hq : p = a + i
      · subst hq
        simp
      · rw [if_neg hq]
        congr 1
        rw [decide_eq_decide]
        omega
    have hlen : ((BL n fun p => decide (p < a + i) && g p).map AV.bool).length = n := by rw [List.length_map, BL_len]
    have hos : over ((BL n fun p => decide (p < a + i) && g p).map AV.bool) (a + i) [.bool (g (a + i))] = (BL n fun p => decide (p < a + (i + 1)) && g p).map .bool := by
      rw [over_set (by rw [hlen]; omega), hst]
    have hpm : (b = b) = True := by simp
    have hw1 : ∀ cs, H.cells (wr h' b cs) b = some cs := fun cs => cells_wr2 hbl
    have hw2 : ∀ cs, (∀ c, c ≠ b → (wr h' b cs)[c]? = h[c]?) := fun cs c hc => by
      unfold wr
      rw [List.getElem?_set_ne (Ne.symm hc)]
      exact q2 c hc
    have hw3 : ∀ cs, (wr h' b cs).length = h.length := fun cs => by simp [wr, q1]
    cases hgb : g (a + i)
    all_goals
      rw [hgb] at hab hos
      (try (simp (disch := first | omega | (simp <;> omega) | fail) only [push_cast, ↓reduceIte, Nat.reduceEqDiff, Nat.reduceAdd, Nat.reduceMul, Nat.reduceSub, Nat.reduceLT, Int.reduceToNat, hab, q3, hlen, hos, hpm]))
      all_goals (try exact ⟨⟨hw3 _, hw2 _⟩, hw1 _⟩)
      all_goals (try exact ⟨hw3 _, hw2 _, hw1 _⟩)
  · (try (simp only [decide_eq_true_eq, decide_eq_false_iff_not, Bool.not_eq_true', Bool.not_eq_false', Bool.and_eq_true, Bool.or_eq_true, Int.not_lt, Int.not_le] at hc)); (try (simp (disch := first | omega | (simp <;> omega) | fail) only [push_cast, ↓reduceIte, Nat.reduceEqDiff, Nat.reduceAdd, Nat.reduceMul, Nat.reduceSub, Nat.reduceLT, Int.reduceToNat]))
    have hie : i = w := by omega
    subst hie
    first | exact ⟨q1, q2, q3⟩ | exact ⟨⟨q1, q2⟩, q3⟩

theorem c_spec_biNew_own (n m : Nat) (hn : n ≤ 1000000) (hm : (((n : Int) + 15) / 16) = (m : Int)) (h : H) : Call Tryz.prog 76 [.int .i64 n] h Nowhere (fun x h' => BnI h h' n m x) := by
  refine enter (by kernel_rfl) e76 (by kernel_rfl) rfl fun hok => ?_
  simp only [r76, initEnv_1]
  (try (simp (disch := first | omega | (simp <;> omega) | fail) only [push_cast, ↓reduceIte, Nat.reduceEqDiff, Nat.reduceAdd, Nat.reduceMul, Nat.reduceSub, Nat.reduceLT, Int.reduceToNat, hm]))
  all_goals (try exact ⟨h.length + 1, rfl, by omega, ⟨_, rfl⟩, by rw [cells_hk]; simp [cellsO, rep_words]⟩)
theorem c_spec_biSet (n : Int) (b m B i : Nat) (h : H) (hc : h.cells b = some ((wordsN B m).map (.int .i64))) (hi : i < 16 * m) (hm : m ≤ 100000) :
    Call Tryz.prog 77 [.agg [.int .i64 n, .sl b 0 1 m m], .int .i64 i] h (fun b' => b' = b) (fun x h' => h.length ≤ h'.length ∧ (∀ b', b' < h.length → b' ≠ b → h'[b']? = h[b']?) ∧ h'.cells b = some ((wordsN (B ||| 2 ^ i) m).map (.int .i64))) := by
  refine enter (by kernel_rfl) e77 (by kernel_rfl) rfl fun hok => ?_
  simp only [r77, initEnv_2]
  have hb := cells_lt hc
  have hcb : ∀ l : H, H.cells (h ++ l) b = some ((wordsN B m).map (.int .i64)) := fun l => cells_app hc
  have e1 : ((i : Int) / 16).toNat = i / 16 := by omega
  have e2 : ((i : Int) % 16).toNat = i % 16 := by omega
  have hgd := wordsN_get (B := B) (m := m) (k := i / 16) (by omega)
  have hwl := wordN_lt (B := B) (k := i / 16)
  obtain ⟨v, hv⟩ : ∃ v : Nat, v = 2 ^ (i % 16) := ⟨_, rfl⟩
  have hvl : v < 65536 := by
    rw [hv]
    have : 2 ^ (i % 16) < 2 ^ 16 := Nat.pow_lt_pow_right (by decide) (by omega)
    simpa using this
  have hsh := shl16 (j := i % 16) (by omega)
  rw [← hv] at hsh
  obtain ⟨r, hr⟩ : ∃ r : Nat, r = wordN B (i / 16) ||| v := ⟨_, rfl⟩
  have hor := bitsI_or (x := wordN B (i / 16)) (y := v) (by omega) (by omega)
  rw [← hr] at hor
  have hset : ((wordsN B m).map (AV.int .i64)).set (i / 16) (.int .i64 (r : Int)) = (wordsN (B ||| 2 ^ i) m).map (.int .i64) := by
    rw [← wordsN_set hi, ← hv, ← hr, List.map_set]
  have hlen : ((wordsN B m).map (AV.int .i64)).length = m := by simp [wordsN_len]
  have hgi : ((wordsN B m).map (AV.int .i64))[i / 16]? = some (.int .i64 (wordN B (i / 16) : Int)) := by
    rw [get_I (by rw [wordsN_len]; omega), hgd]
  have hos : over ((wordsN B m).map (AV.int .i64)) (i / 16) [.int .i64 (r : Int)] = (wordsN (B ||| 2 ^ i) m).map (.int .i64) := by
    rw [over_set (by rw [hlen]; omega), hset]
  have hpm : (b = b) = True := by simp
  (try (simp (disch := first | omega | (simp <;> omega) | fail) only [push_cast, ↓reduceIte, Nat.reduceEqDiff, Nat.reduceAdd, Nat.reduceMul, Nat.reduceSub, Nat.reduceLT, Int.reduceToNat, hcb, e1, e2, hgi, hsh, hor, hlen, hos, hpm, reads, List.not_mem_nil, not_false_eq_true]))
  all_goals (try exact ⟨by simp [wr], fun b' h1 h2 => by unfold wr; rw [List.getElem?_set_ne (Ne.symm h2), List.getElem?_append_left h1], by rw [cells_wr2 (by simp; omega)]⟩)

/-- A vector of a list of bits, in memory of the call's own. -/
theorem c_spec_biSome (o : Option (List Bool)) (m : Nat) (hm : ((((lO o).length : Int)) + 15) / 16 = (m : Int)) (hl : (lO o).length ≤ 5000) (h : H) : Call Tryz.prog 37 [eO o] h Nowhere (fun x h' => ∃ bb, x = .agg [.int .i64 (lO o).length, .sl bb 0 1 m m] ∧ h.length ≤ bb ∧ h.length ≤ h'.length ∧ (∀ c, c < h.length → h'[c]? = h[c]?) ∧ h'.cells bb = some ((wordsN (bitN (lO o) (lO o).length) m).map (.int .i64))) := by
  refine enter (by kernel_rfl) e37 (by kernel_rfl) rfl fun hok => ?_
  simp only [r37, initEnv_1]
  (try (simp (disch := first | omega | (simp <;> omega) | fail) only [push_cast, ↓reduceIte, Nat.reduceEqDiff, Nat.reduceAdd, Nat.reduceMul, Nat.reduceSub, Nat.reduceLT, Int.reduceToNat]))
  refine (c_spec_biNew_own (lO o).length m (by omega) hm _).mono (fun x h1 hx => ?_) (fun _ _ h => h.elim)
  obtain ⟨bb, rfl, hbb, ⟨p, hp1⟩, hcb⟩ := hx
  simp only [List.length_append, List.length_cons, List.length_nil] at hbb
  have hl1 : h.length + 1 ≤ h1.length := by rw [hp1]; simp
  have hk1 : ∀ c, c < h.length → h1[c]? = h[c]? := fun c hc => by
    rw [hp1, List.append_assoc]
    exact List.getElem?_append_left hc
  have hc0 : h1.cells h.length = some [.int .i64 0, .nils] := by
    rw [hp1]
    refine cells_app ?_
    rw [cells_h0]
    rfl
  have hbl1 := cells_lt hcb
  clear hp1
  (try (simp (disch := first | omega | (simp <;> omega) | fail) only [push_cast, ↓reduceIte, Nat.reduceEqDiff, Nat.reduceAdd, Nat.reduceMul, Nat.reduceSub, Nat.reduceLT, Int.reduceToNat]))
  refine T_for (lO o).length (fun i e h' => Pins e [(2, .adr h.length 0), (3, .adr h1.length 0), (9, eO o), (10, .int .i64 (lO o).length), (11, .int .i64 i)] ∧ h1.length < h'.length ∧ (∀ c, c < h.length → h'[c]? = h[c]?) ∧ h'.cells h.length = some [.int .i64 0, .nils] ∧ h'.cells h1.length = some [.int .i64 (lO o).length, .sl bb 0 1 m m] ∧ h'.cells bb = some ((wordsN (bitN (lO o) i) m).map (.int .i64))) ?_ ?_
  · (try (simp (disch := first | omega | (simp <;> omega) | fail) only [push_cast, ↓reduceIte, Nat.reduceEqDiff, Nat.reduceAdd, Nat.reduceMul, Nat.reduceSub, Nat.reduceLT, Int.reduceToNat]))
    all_goals (try exact ⟨by simp, fun c hc => (List.getElem?_append_left (by omega)).trans (hk1 c hc), cells_app hc0, cells_app hcb⟩)
    all_goals (try exact ⟨fun c hc => (List.getElem?_append_left (by omega)).trans (hk1 c hc), hc0, hcb⟩)
    all_goals (try exact ⟨by simp, fun c hc => (List.getElem?_append_left (by omega)).trans (hk1 c hc), cells_app hc0, by rw [cells_h0]; rfl, cells_app hcb⟩)
  rintro i e h' hi ⟨hp, q1, q2, q3, q4, q5⟩
  refine T_pins hp fun e => ?_
  (try (simp (disch := first | omega | (simp <;> omega) | fail) only [push_cast, ↓reduceIte, Nat.reduceEqDiff, Nat.reduceAdd, Nat.reduceMul, Nat.reduceSub, Nat.reduceLT, Int.reduceToNat]))
  first | refine goC_split (fun hc => ?_) (fun hc => ?_) | refine cnd_split (fun hc => ?_) (fun hc => ?_)
  · (try (simp only [decide_eq_true_eq, decide_eq_false_iff_not, Bool.not_eq_true', Bool.not_eq_false', Bool.and_eq_true, Bool.or_eq_true, Int.not_lt, Int.not_le] at hc)); (try (simp (disch := first | omega | (simp <;> omega) | fail) only [push_cast, ↓reduceIte, Nat.reduceEqDiff, Nat.reduceAdd, Nat.reduceMul, Nat.reduceSub, Nat.reduceLT, Int.reduceToNat]))
    have hi2 : i < (lO o).length := by omega
    cases hb : (lO o).getD i false
    · have q6 := q5
      rw [← bitN_off hb] at q6
      (try (simp (disch := first | omega | (simp <;> omega) | fail) only [push_cast, ↓reduceIte, Nat.reduceEqDiff, Nat.reduceAdd, Nat.reduceMul, Nat.reduceSub, Nat.reduceLT, Int.reduceToNat, hb]))
      all_goals (try exact ⟨q2, q3, q4, q6⟩)
    · (try (simp (disch := first | omega | (simp <;> omega) | fail) only [push_cast, ↓reduceIte, Nat.reduceEqDiff, Nat.reduceAdd, Nat.reduceMul, Nat.reduceSub, Nat.reduceLT, Int.reduceToNat, hb, q4]))
      refine (c_spec_biSet (lO o).length bb m _ i h' q5 (by omega) (by omega)).mono (fun y h2 hy => ?_) (fun b' _ hb' => Or.inr (by omega))
      obtain ⟨y1, y2, y3⟩ := hy
      rw [← bitN_on hb] at y3
      have r2 : ∀ c, c < h.length → h2[c]? = h[c]? := fun c hc => (y2 c (by omega) (by omega)).trans (q2 c hc)
      have r3 := cells_keep (y2 h.length (by omega) (by omega)) q3
      have r4 := cells_keep (y2 h1.length (by omega) (by omega)) q4
      (try (simp (disch := first | omega | (simp <;> omega) | fail) only [push_cast, ↓reduceIte, Nat.reduceEqDiff, Nat.reduceAdd, Nat.reduceMul, Nat.reduceSub, Nat.reduceLT, Int.reduceToNat]))
      all_goals (try exact ⟨r2, r3, r4, y3⟩)
  · (try (simp only [decide_eq_true_eq, decide_eq_false_iff_not, Bool.not_eq_true', Bool.not_eq_false', Bool.and_eq_true, Bool.or_eq_true, Int.not_lt, Int.not_le] at hc)); (try (simp (disch := first | omega | (simp <;> omega) | fail) only [push_cast, ↓reduceIte, Nat.reduceEqDiff, Nat.reduceAdd, Nat.reduceMul, Nat.reduceSub, Nat.reduceLT, Int.reduceToNat]))
    have hie : i = (lO o).length := by omega
    subst hie
    have hw := cells_wr2 (cells_lt q3) (cs := [AV.int .i64 ((lO o).length : Int), .sl bb 0 1 m m])
    have hpm : (h.length ≤ h.length) = True := by simp
    have f1 : h.length ≤ (wr h' h.length [AV.int .i64 ((lO o).length : Int), .sl bb 0 1 m m]).length := by simp [wr]; omega
    have f2 : ∀ c, c < h.length → (wr h' h.length [AV.int .i64 ((lO o).length : Int), .sl bb 0 1 m m])[c]? = h[c]? := fun c hc => by
      unfold wr
      rw [List.getElem?_set_ne (by omega)]
      exact q2 c hc
    have f3 : (wr h' h.length [AV.int .i64 ((lO o).length : Int), .sl bb 0 1 m m]).cells bb = some ((wordsN (bitN (lO o) (lO o).length) m).map (.int .i64)) := by
      rw [cells_eq]
      unfold wr
      rw [List.getElem?_set_ne (by omega), ← cells_eq]
      exact q5
    (try (simp (disch := first | omega | (simp <;> omega) | fail) only [push_cast, ↓reduceIte, Nat.reduceEqDiff, Nat.reduceAdd, Nat.reduceMul, Nat.reduceSub, Nat.reduceLT, Int.reduceToNat, q3, q4, hpm, hw]))
    all_goals (try exact ⟨bb, rfl, by omega, f1, f2, f3⟩)
    all_goals (try exact ⟨bb, rfl, by omega, f2, f3⟩)

def zero7 : List AV := [.int .i64 0, .int .i64 0, .int .i64 0, .int .i64 0, .nils, .int .i64 0, .nils]
/-- While the vector is made: the box of the result, the low parts so far, the high bits so far. -/
def SzI (h h' : H) (v : AV) (L : List Nat) (b8 bb hs mh X : Nat) : Prop :=
  H.cells h' h.length = some zero7 ∧ H.cells h' b8 = some [.int .i64 (hs : Int), .sl bb 0 1 mh mh] ∧ H.cells h' bb = some ((wordsN X mh).map (.int .i64)) ∧ h.length + 1 ≤ b8 ∧ h.length + 1 ≤ bb ∧ b8 ≠ bb ∧
  ∃ B, S1 h' 1 v L.length ((natI L).map (.int .i64)) B ∧ ∀ k ∈ B, h.length + 1 ≤ k ∧ k ≠ b8 ∧ k ≠ bb
theorem SzI.app {h h' : H} {v : AV} {L : List Nat} {b8 bb hs mh X x : Nat} {pm : Nat → Prop} {Q : AV → H → Prop} (hz : SzI h h' v L b8 bb hs mh X) (hpm : ∀ c, h.length ≤ c → pm c) (hL : L.length ≤ 1000000)
    (hQ : ∀ v' h'', SzI h h'' v' (L ++ [x]) b8 bb hs mh X → h'.length ≤ h''.length → Q v' h'') : apA pm (h' ++ [some (.cells [.int .i64 (x : Int)])]) Q 1 8 (some ([.int .i64 (x : Int)], 1)) v := by
  obtain ⟨z1, z2, z3, z4, z5, z6, B, hs, hB⟩ := hz
  have l1 := cells_lt z1
  have l2 := cells_lt z2
  have l3 := cells_lt z3
  have hs2 := hs.frame (h' := h' ++ [some (.cells [.int .i64 (x : Int)])]) fun c hc => List.getElem?_append_left (hs.lt c hc)
  refine hs2.app (fun c hc => hpm c (by have := (hB c hc).1; omega)) rfl (by decide) (by omega) fun v' h'' B' q1 q2 q3 q4 => ?_
  simp only [List.length_append, List.length_cons, List.length_nil] at q2 q4
  have hk : ∀ c, c < h'.length → c ∉ B → h''[c]? = h'[c]? := fun c hc hb => (q3 c (by simp; omega) hb).trans (List.getElem?_append_left hc)
  refine hQ v' h'' ⟨cells_keep (hk _ l1 fun hb => by have := (hB _ hb).1; omega) z1, cells_keep (hk _ l2 fun hb => (hB _ hb).2.1 rfl) z2, cells_keep (hk _ l3 fun hb => (hB _ hb).2.2 rfl) z3, z4, z5, z6, B', by simpa [natI] using q1, fun k hk => ?_⟩ (by omega)
  rcases q4 k hk with h5 | h5
  · exact hB k h5
  · exact ⟨by omega, by omega, by omega⟩
theorem SzI.set {h h' h2 : H} {v : AV} {L : List Nat} {b8 bb hs mh X Y : Nat} (hz : SzI h h' v L b8 bb hs mh X) (hf : ∀ c, c ≠ bb → h2[c]? = h'[c]?) (hc : H.cells h2 bb = some ((wordsN Y mh).map (.int .i64))) : SzI h h2 v L b8 bb hs mh Y := by
  obtain ⟨z1, z2, z3, z4, z5, z6, B, hs, hB⟩ := hz
  exact ⟨cells_keep (hf _ (by omega)) z1, cells_keep (hf _ z6) z2, hc, z4, z5, z6, B, hs.frame fun c hc => hf c (hB c hc).2.2, hB⟩
theorem SzI.vw {h h' : H} {v : AV} {L : List Nat} {b8 bb hs mh X : Nat} (hz : SzI h h' v L b8 bb hs mh X) : ∃ o, Vw h' 0 v (eI o) ∧ lI o = natI L := by
  obtain ⟨_, _, _, _, _, _, B, hs, hB⟩ := hz
  exact (show LsI 0 h' v L from ⟨Nat.zero_le _, B, hs, fun _ _ => Nat.zero_le _⟩).vw (Nat.le_refl _)
theorem ow7 {h : H} {n l w a c : Int} {b2 m2 : Nat} {x1 : AV} {w1 : Option (List Int)} {w2 : List Int} {n0 : Nat} {F : Nat → Prop} (h1 : Ow h [x1] [eI w1] F) (h2 : H.cells h b2 = some (w2.map (.int .i64))) (l2 : w2.length = m2) (hF : ∀ c, F c → n0 ≤ c ∧ c ≠ b2) (hb2 : n0 ≤ b2) :
    Ow h [.agg [.int .i64 n, .int .i64 l, .int .i64 w, .int .i64 a, x1, .int .i64 c, .sl b2 0 1 m2 m2]] [eSp ⟨n, l, w, ⟨a, w1⟩, ⟨c, some w2⟩⟩] fun c => n0 ≤ c := by
  subst l2
  refine Ow.aggOf (ts := cSp ⟨n, l, w, ⟨a, w1⟩, ⟨c, some w2⟩⟩) (.atom rfl (.atom rfl (.atom rfl (.atom rfl ?_))))
  have o2 : Ow h [.sl b2 0 1 w2.length w2.length] [.ro 1 (w2.map (.int .i64)) w2.length] (fun c => c = b2) := ow_map (f := AV.int .i64) (fun _ => rfl) h2 rfl rfl
  exact h1.cons (F' := fun c => c = b2) (.atom rfl o2) (fun c hc => (hF c hc).1) (fun c hc => ⟨by rw [hc]; exact hb2, fun h5 => (hF c h5).2 hc⟩)

theorem ow_sp {h : H} {x : AV} {s : Spa} {G : Nat → Prop} (ho : Ow h [x] [eSp s] G) : ∃ x5 x7 F5 F7, x = .agg [.int .i64 s.count, .int .i64 s.limit, .int .i64 s.width, .int .i64 s.low.size, x5, .int .i64 s.high.size, x7] ∧ Ow h [x5] [eI s.low.words] F5 ∧ Ow h [x7] [eI s.high.words] F7 ∧ (∀ c, F5 c → G c) ∧ (∀ c, F7 c → G c ∧ ¬ F5 c) ∧
    ∀ h' w5 w7, Ow h' [x5] [eI w5] F5 → Ow h' [x7] [eI w7] F7 → Ow h' [x] [eSp ⟨s.count, s.limit, s.width, ⟨s.low.size, w5⟩, ⟨s.high.size, w7⟩⟩] G := by
  obtain ⟨cs, rfl, h1⟩ := Ow.openAgg (show Ow h [x] [.agg (cSp s)] G from ho)
  have hl : cs.length = 7 := h1.len.symm
  match cs, hl, h1 with
  | [x1, x2, x3, x4, x5, x6, x7], _, h1 =>
    obtain ⟨_, G2, f1, h2, _, g2⟩ := h1.uncons
    obtain ⟨_, G3, f2, h3, _, g3⟩ := h2.uncons
    obtain ⟨_, G4, f3, h4, _, g4⟩ := h3.uncons
    obtain ⟨_, G5, f4, h5, _, g5⟩ := h4.uncons
    obtain ⟨F5, G6, f5, h6, e5, g6⟩ := h5.uncons
    obtain ⟨_, G7, f6, h7, _, g7⟩ := h6.uncons
    have a1 : x1 = .int .i64 s.count := f1.atomOf rfl
    have a2 : x2 = .int .i64 s.limit := f2.atomOf rfl
    have a3 : x3 = .int .i64 s.width := f3.atomOf rfl
    have a4 : x4 = .int .i64 s.low.size := f4.atomOf rfl
    have a6 : x6 = .int .i64 s.high.size := f6.atomOf rfl
    subst a1 a2 a3 a4 a6
    have up : ∀ c, G5 c → G c := fun c hc => (g2 c (g3 c (g4 c (g5 c hc).1).1).1).1
    refine ⟨x5, x7, F5, G7, rfl, f5, h7, fun c hc => up c (e5 c hc), fun c hc => ?_, fun h' w5 w7 o5 o7 => ?_⟩
    · have h8 := g6 c (g7 c hc).1
      exact ⟨up c h8.1, h8.2⟩
    · refine Ow.aggOf (ts := cSp ⟨s.count, s.limit, s.width, ⟨s.low.size, w5⟩, ⟨s.high.size, w7⟩⟩) (.atom rfl (.atom rfl (.atom rfl (.atom rfl ?_))))
      exact o5.cons (F' := G7) (.atom rfl o7) (fun c hc => up c (e5 c hc)) (fun c hc => by
        have h8 := g6 c (g7 c hc).1
        exact ⟨up c h8.1, h8.2⟩)

theorem ow7b {h : H} {n l w a c : Int} {x1 x2 : AV} {w1 w2 : Option (List Int)} {n0 : Nat} {F1 F2 : Nat → Prop} (h1 : Ow h [x1] [eI w1] F1) (h2 : Ow h [x2] [eI w2] F2) (hF : ∀ c, F1 c → n0 ≤ c) (hF2 : ∀ c, F2 c → n0 ≤ c ∧ ¬ F1 c) :
    Ow h [.agg [.int .i64 n, .int .i64 l, .int .i64 w, .int .i64 a, x1, .int .i64 c, x2]] [eSp ⟨n, l, w, ⟨a, w1⟩, ⟨c, w2⟩⟩] fun c => n0 ≤ c :=
  Ow.aggOf (ts := cSp ⟨n, l, w, ⟨a, w1⟩, ⟨c, w2⟩⟩) (.atom rfl (.atom rfl (.atom rfl (.atom rfl (h1.cons (F' := F2) (.atom rfl h2) hF hF2)))))
theorem vw_bl {g : H} {b N n0 : Nat} {f : Nat → Bool} (hc : H.cells g b = some ((BL N f).map .bool)) (hb : n0 ≤ b) : Vw g n0 (.sl b 0 1 N N) (eO (some (BL N f))) := by
  have := vw_all (n := n0) (kc := N) (sz := 1) (len := N) hb hc (by rw [List.length_map, BL_len]; omega) (one_map fun _ => rfl) (free_map_ fun _ => free_bool)
  show Vw g n0 _ (.ro 1 ((BL N f).map .bool) (BL N f).length)
  rw [BL_len]
  exact this

theorem ow_bt {h : H} {x : AV} {b : Bt} {G : Nat → Prop} (ho : Ow h [x] [eB b] G) : ∃ w F, x = .agg [.int .i64 b.size, w] ∧ Ow h [w] [eI b.words] F ∧ (∀ c, F c → G c) ∧ one w = true ∧ cellsOf w = [w] ∧ ∀ h' ws, Ow h' [w] [eI ws] F → Ow h' [x] [eB ⟨b.size, ws⟩] G := by
  obtain ⟨cs, rfl, h1⟩ := Ow.openAgg (show Ow h [x] [.agg (cB b)] G from ho)
  have hl : cs.length = 2 := h1.len.symm
  match cs, hl, h1 with
  | [x1, x2], _, h1 =>
    obtain ⟨F, F', f1, f2, f3, f4⟩ := h1.uncons
    have e1 : x1 = .int .i64 b.size := f1.atomOf rfl
    subst e1
    refine ⟨x2, F', rfl, f2, fun c hc => (f4 c hc).1, ?_, ?_, fun h' ws hw => ?_⟩
    · cases hw : b.words with
      | none => rw [hw] at f2; have : x2 = .nils := f2.atomOf rfl; rw [this]; rfl
      | some ws => rw [hw] at f2; obtain ⟨bb, e2⟩ := Ow.sl1 (show Ow h [x2] [.ro 1 _ _] F' from f2); rw [e2]; rfl
    · cases hw : b.words with
      | none => rw [hw] at f2; have : x2 = .nils := f2.atomOf rfl; rw [this]; rfl
      | some ws => rw [hw] at f2; obtain ⟨bb, e2⟩ := Ow.sl1 (show Ow h [x2] [.ro 1 _ _] F' from f2); rw [e2]; rfl
    · exact (Ow.atom rfl (hw.mono fun c hc => (f4 c hc).1)).aggOf

theorem natI_get {L : List Nat} {i : Nat} : (natI L).getD i 0 = ((L.getD i 0 : Nat) : Int) := by
  unfold natI
  simp only [List.getD_eq_getElem?_getD, List.getElem?_map]
  cases L[i]? <;> simp

theorem c_spec_spOf_o (L : List Nat) (lim : Nat) (o : Option (List Int)) (ho : lI o = natI L) (hL : L.length ≤ 60) (h1 : 1 ≤ lim) (hl : lim ≤ 100000) (hlt : ∀ i, i < L.length → L.getD i 0 < lim) : FnO Tryz.prog 34 [eI o, .int .i64 lim] (· = eSp (spV L lim)) := by
  intro h
  refine enter (by kernel_rfl) e34 (by kernel_rfl) rfl fun hok => ?_
  simp only [r34, initEnv_2]
  have hln : (lI o).length = L.length := by rw [ho, natI_len]
  have hw16 := wid_le (c := L.length) hl
  have hsl := hiS_le hL hl
  have hWF := c_spec_spWidth L.length lim hL hl
  obtain ⟨w, hwd⟩ : ∃ w, w = wid L.length lim := ⟨_, rfl⟩
  have hsv : spV L lim = ⟨L.length, lim, w, lowB L w, hiB L lim w⟩ := by rw [hwd]; rfl
  rw [← hwd] at hWF hw16 hsl
  obtain ⟨hs, hhs⟩ : ∃ hs, hs = hiS L.length lim w := ⟨_, rfl⟩
  rw [← hhs] at hsl
  have hsh : Int.fdiv ((lim : Int) - 1) (2 ^ (min w IntKind.i64.bits)) = (((lim - 1) / 2 ^ w : Nat) : Int) := by
    rw [← shrN (a := lim - 1) (b := w) (by omega)]
    congr 1
    omega
  obtain ⟨sq, hsq⟩ : ∃ sq, sq = (lim - 1) / 2 ^ w := ⟨_, rfl⟩
  rw [← hsq] at hsh
  have hhs2 : hs = L.length + sq + 1 := by rw [hhs, hsq]; rfl
  have hsi : (L.length : Int) + (sq : Int) + 1 = (hs : Int) := by omega
  have hlw : L.length * w ≤ 60 * 16 := Nat.mul_le_mul hL hw16
  have hmul : (L.length : Int) * (w : Int) = ((L.length * w : Nat) : Int) := by simp
  have hnw : ∀ i, i < L.length → i * w + w ≤ L.length * w := fun i hi => by
    have : (i + 1) * w ≤ L.length * w := Nat.mul_le_mul_right _ hi
    rw [Nat.add_mul, Nat.one_mul] at this
    omega
  obtain ⟨n, hn⟩ : ∃ n, n = L.length * w := ⟨_, rfl⟩
  rw [← hn] at hlw hmul hnw
  have hr1 : List.replicate n (AV.bool false) = (BL n fun p => decide (p < 0 * w) && lowG L w p).map .bool := BL_rep fun p => by simp
  have hr2 : List.replicate hs (AV.bool false) = (BL hs (hiG L w 0)).map .bool := BL_rep fun p => by simp [hiG]
  (try (simp (disch := first | omega | (simp <;> omega) | fail) only [push_cast, ↓reduceIte, Nat.reduceEqDiff, Nat.reduceAdd, Nat.reduceMul, Nat.reduceSub, Nat.reduceLT, Int.reduceToNat, hln]))
  refine hWF.call ?_
  (try (simp (disch := first | omega | (simp <;> omega) | fail) only [push_cast, ↓reduceIte, Nat.reduceEqDiff, Nat.reduceAdd, Nat.reduceMul, Nat.reduceSub, Nat.reduceLT, Int.reduceToNat, hln, hmul, hsh, hsi]))
  refine T_for L.length (fun i e h' => Pins e [(0, eI o), (1, .int .i64 lim), (4, .adr h.length 0), (5, .int .i64 w), (6, .sl (h.length + 1) 0 1 n n), (7, .sl (h.length + 2) 0 1 hs hs), (28, eI o), (29, .int .i64 L.length), (30, .int .i64 i)] ∧ H.cells h' h.length = some zero7 ∧ H.cells h' (h.length + 1) = some ((BL n fun p => decide (p < i * w) && lowG L w p).map .bool) ∧ H.cells h' (h.length + 2) = some ((BL hs (hiG L w i)).map .bool)) ?_ ?_
  · have hc0 : ∀ a b : Option AObj, H.cells (h ++ [some (.cells zero7), a, b]) h.length = some zero7 := fun a b => by rw [cells_h0]; rfl
    rw [← hr1, ← hr2]
    (try (simp (disch := first | omega | (simp <;> omega) | fail) only [push_cast, ↓reduceIte, Nat.reduceEqDiff, Nat.reduceAdd, Nat.reduceMul, Nat.reduceSub, Nat.reduceLT, Int.reduceToNat, hln]))
    all_goals (try exact ⟨by rw [cells_h0]; rfl, by rw [cells_hk]; simp [cellsO], by rw [cells_hk]; simp [cellsO]⟩)
    all_goals (try rfl)
  rintro i e h' hi ⟨hp, q1, q2, q3⟩
  refine T_pins hp fun e => ?_
  have lq1 := cells_lt q1
  have lq2 := cells_lt q2
  have lq3 := cells_lt q3
  (try (simp (disch := first | omega | (simp <;> omega) | fail) only [push_cast, ↓reduceIte, Nat.reduceEqDiff, Nat.reduceAdd, Nat.reduceMul, Nat.reduceSub, Nat.reduceLT, Int.reduceToNat]))
  first | refine goC_split (fun hc => ?_) (fun hc => ?_) | refine cnd_split (fun hc => ?_) (fun hc => ?_)
  · (try (simp only [decide_eq_true_eq, decide_eq_false_iff_not, Bool.not_eq_true', Bool.not_eq_false', Bool.and_eq_true, Bool.or_eq_true, Int.not_lt, Int.not_le] at hc)); (try (simp (disch := first | omega | (simp <;> omega) | fail) only [push_cast, ↓reduceIte, Nat.reduceEqDiff, Nat.reduceAdd, Nat.reduceMul, Nat.reduceSub, Nat.reduceLT, Int.reduceToNat]))
    have hi2 : i < L.length := by omega
    have hgi : (lI o).getD i 0 = ((L.getD i 0 : Nat) : Int) := by rw [ho, natI_get]
    have hni := hlt i hi2
    have hq := hi_lt (w := w) hi2 hni
    rw [← hhs] at hq
    have hpw : 2 ^ w ≤ 2 ^ 16 := Nat.pow_le_pow_right (by decide) hw16
    have hp0 : 1 ≤ 2 ^ w := Nat.pow_pos (by decide)
    have hsh1 : IntKind.i64.wrap (1 * 2 ^ (min w IntKind.i64.bits)) = ((2 ^ w : Nat) : Int) := by
      have := shlN (a := 1) (b := w) (by omega) (by omega)
      simpa using this
    have hshr := shrN (a := L.getD i 0) (b := w) (by omega)
    have hmi : (i : Int) * (w : Int) = ((i * w : Nat) : Int) := by simp
    have hiw := hnw i hi2
    have hsu : (i + 1) * w = i * w + w := by rw [Nat.add_mul, Nat.one_mul]
    have hmdl := Nat.mod_lt (L.getD i 0) (Nat.two_pow_pos w)
    have hgb : ∀ j, j < w → (L.getD i 0 % 2 ^ w).testBit j = lowG L w (i * w + j) := fun j hj => by
      rw [lowG_at hj, Nat.testBit_mod_two_pow]
      simp [hj]
    have hrem : ((L.getD i 0 : Nat) : Int) % ((2 ^ w : Nat) : Int) = ((L.getD i 0 % 2 ^ w : Nat) : Int) := by simp
    have hst : ((BL hs (hiG L w i)).map AV.bool).set (L.getD i 0 / 2 ^ w + i) (.bool true) = (BL hs (hiG L w (i + 1))).map .bool := BL_set _ fun p hp => by
      rw [hiG_succ]
      by_cases h5 : p = L.getD i 0 / 2 ^ w + i
      · subst h5
        simp
      · rw [if_neg h5, decide_eq_false (Ne.symm h5), Bool.or_false]
    have hlen3 : ((BL hs (hiG L w i)).map AV.bool).length = hs := by rw [List.length_map, BL_len]
    have hos : over ((BL hs (hiG L w i)).map AV.bool) (L.getD i 0 / 2 ^ w + i) [.bool true] = (BL hs (hiG L w (i + 1))).map .bool := by
      rw [over_set (by rw [hlen3]; omega), hst]
    obtain ⟨k, hk⟩ : ∃ k, k = L.getD i 0 := ⟨_, rfl⟩
    rw [← hk] at hgi hni hq hshr hmdl hgb hrem hst hos
    obtain ⟨P, hP⟩ : ∃ P, P = 2 ^ w := ⟨_, rfl⟩
    rw [← hP] at hpw hp0 hsh1 hshr hmdl hgb hrem hst hos hq
    obtain ⟨md, hmd⟩ : ∃ md, md = k % P := ⟨_, rfl⟩
    obtain ⟨dv, hdv⟩ : ∃ dv, dv = k / P := ⟨_, rfl⟩
    obtain ⟨iw, hiwd⟩ : ∃ iw, iw = i * w := ⟨_, rfl⟩
    rw [← hmd] at hmdl hgb hrem
    rw [← hdv] at hshr hst hos hq
    rw [← hiwd] at hmi hiw hsu hgb q2
    (try (simp (disch := first | omega | (simp <;> omega) | fail) only [push_cast, ↓reduceIte, Nat.reduceEqDiff, Nat.reduceAdd, Nat.reduceMul, Nat.reduceSub, Nat.reduceLT, Int.reduceToNat, hln, hgi, hmi, hsh1, hrem]))
    refine (c_spec_biPut n iw w md (h.length + 1) (lowG L w) _ q2 (by omega) hw16 hgb (by omega) (by omega)).mono (fun y h2 hy => ?_) (fun b' _ hb' => Or.inr (by omega))
    obtain ⟨y1, y2, y3⟩ := hy
    rw [← hsu] at y3
    have r1 := cells_keep (y2 _ (by omega)) q1
    have r3 := cells_keep (y2 _ (by omega)) q3
    have lr3 := cells_lt r3
    have hpm2 : (h.length ≤ h.length + 2) = True := by simp
    have hdi : (dv : Int) + (i : Int) = ((dv + i : Nat) : Int) := by omega
    have hwk : ∀ c cs, c ≠ h.length + 2 → (wr h2 (h.length + 2) cs)[c]? = h2[c]? := fun c cs hc => by
      unfold wr
      rw [List.getElem?_set_ne (Ne.symm hc)]
    have s1 : ∀ cs, H.cells (wr h2 (h.length + 2) cs) h.length = some zero7 := fun cs => cells_keep (hwk _ cs (by omega)) r1
    have s2 : ∀ cs, H.cells (wr h2 (h.length + 2) cs) (h.length + 1) = some ((BL n fun p => decide (p < (i + 1) * w) && lowG L w p).map .bool) := fun cs => cells_keep (hwk _ cs (by omega)) y3
    have s3 : ∀ cs, H.cells (wr h2 (h.length + 2) cs) (h.length + 2) = some cs := fun cs => cells_wr2 lr3
    (try (simp (disch := first | omega | (simp <;> omega) | fail) only [push_cast, ↓reduceIte, Nat.reduceEqDiff, Nat.reduceAdd, Nat.reduceMul, Nat.reduceSub, Nat.reduceLT, Int.reduceToNat, hshr, r3, hlen3, hos, hpm2]))
    all_goals (try exact ⟨s1 _, s2 _, s3 _⟩)
  · (try (simp only [decide_eq_true_eq, decide_eq_false_iff_not, Bool.not_eq_true', Bool.not_eq_false', Bool.and_eq_true, Bool.or_eq_true, Int.not_lt, Int.not_le] at hc)); (try (simp (disch := first | omega | (simp <;> omega) | fail) only [push_cast, ↓reduceIte, Nat.reduceEqDiff, Nat.reduceAdd, Nat.reduceMul, Nat.reduceSub, Nat.reduceLT, Int.reduceToNat]))
    have hie : i = L.length := by omega
    subst hie
    have hbo : ∀ (N : Nat) (f : Nat → Bool), N ≤ 5000 → FnO Tryz.prog 37 [eO (some (BL N f))] (· = eB ⟨(N : Int), some (wordsN (mkN N f) ((N + 15) / 16))⟩) := fun N f hN g => (c_spec_biSome (some (BL N f)) ((N + 15) / 16) (by show (((BL N f).length : Int) + 15) / 16 = _; rw [BL_len]; omega) (by show (BL N f).length ≤ _; rw [BL_len]; exact hN) g).mono (fun x g1 hx => by
      obtain ⟨bb, rfl, q1, q2, q3, q4⟩ := hx
      refine ⟨_, ow_B (G := fun c => g.length ≤ c) q1 q4 (by rw [wordsN_len]), ?_⟩
      show eB ⟨((BL N f).length : Int), some (wordsN (bitN (BL N f) (BL N f).length) _)⟩ = _
      rw [BL_len]
      congr 3
      unfold bitN
      congr 1
      exact mkN_congr fun j hj => BL_get hj) (fun _ _ h => h.elim)
    have hlow : (⟨(n : Int), some (wordsN (mkN n fun p => decide (p < L.length * w) && lowG L w p) ((n + 15) / 16))⟩ : Bt) = lowB L w := by
      unfold lowB
      rw [← hn]
      congr 3
      exact mkN_congr fun p hp => by simp [hp]
    have hhi : (⟨(hs : Int), some (wordsN (mkN hs (hiG L w L.length)) ((hs + 15) / 16))⟩ : Bt) = hiB L lim w := by
      unfold hiB
      rw [← hhs]
    have b1 := hbo n (fun p => decide (p < L.length * w) && lowG L w p) (by omega)
    have b2 := hbo hs (hiG L w L.length) (by omega)
    rw [hlow] at b1
    rw [hhi] at b2
    have hl1 : (lowB L w).size = (n : Int) := by rw [hn]; rfl
    have hl2 : (hiB L lim w).size = (hs : Int) := by rw [hhs]; rfl
    (try (simp (disch := first | omega | (simp <;> omega) | fail) only [push_cast, ↓reduceIte, Nat.reduceEqDiff, Nat.reduceAdd, Nat.reduceMul, Nat.reduceSub, Nat.reduceLT, Int.reduceToNat, hln]))
    refine b1.goL (.cons (vw_bl q2 (Nat.zero_le _)) .nil) fun x t g1 hR hx how => ?_
    subst hR
    obtain ⟨w1, F1, rfl, f1, f2, f3, f4, _⟩ := ow_bt how
    (try (simp (disch := first | omega | (simp <;> omega) | fail) only [push_cast, ↓reduceIte, Nat.reduceEqDiff, Nat.reduceAdd, Nat.reduceMul, Nat.reduceSub, Nat.reduceLT, Int.reduceToNat, f3, f4]))
    refine b2.goL (.cons (vw_bl (hx.cells q3) (Nat.zero_le _)) .nil) fun x t g2 hR hx2 how2 => ?_
    subst hR
    obtain ⟨w2, F2, rfl, k1, k2, k3, k4, _⟩ := ow_bt how2
    have y1 := hx2.cells (hx.cells q1)
    have hpm : (h.length ≤ h.length) = True := by simp
    have hw1 : ∀ cs, H.cells (wr g2 h.length cs) h.length = some cs := fun cs => cells_wr2 (cells_lt y1)
    have hx1l := hx.len
    have hfin : ∀ cs, ∃ t, Ow (wr g2 h.length cs) [.agg [.int .i64 L.length, .int .i64 lim, .int .i64 w, .int .i64 (lowB L w).size, w1, .int .i64 (hiB L lim w).size, w2]] [t] (fun c => h.length ≤ c) ∧ t = eSp (spV L lim) := fun cs => by
      have hwr : ∀ c, c ≠ h.length → (wr g2 h.length cs)[c]? = g2[c]? := fun c hc => by
        unfold wr
        rw [List.getElem?_set_ne (Ne.symm hc)]
      refine ⟨_, ow7b (n0 := h.length) (f1.frame fun c hc => (hwr c (by have := (f2 c hc).1; omega)).trans (hx2.at_ (f2 c hc).2)) (k1.frame fun c hc => hwr c (by have := (k2 c hc).1; omega)) (fun c hc => by have := (f2 c hc).1; omega) (fun c hc => ⟨by have := (k2 c hc).1; omega, fun h5 => by have := (k2 c hc).1; have := (f2 c h5).2; omega⟩), ?_⟩
      rw [hsv]
    unfold zero7 at y1
    (try (simp (disch := first | omega | (simp <;> omega) | fail) only [push_cast, ↓reduceIte, Nat.reduceEqDiff, Nat.reduceAdd, Nat.reduceMul, Nat.reduceSub, Nat.reduceLT, Int.reduceToNat, f3, f4, k3, k4, y1, hpm, hw1]))
    all_goals (try exact hfin _)
theorem c_spec_spOf (L : List Nat) (lim : Nat) (o : Option (List Int)) (ho : lI o = natI L) (hL : L.length ≤ 60) (h1 : 1 ≤ lim) (hl : lim ≤ 100000) (hlt : ∀ i, i < L.length → L.getD i 0 < lim) : Fn Tryz.prog 34 [eI o, .int .i64 lim] (· = eSp (spV L lim)) :=
  (c_spec_spOf_o L lim o ho hL h1 hl hlt).fn

theorem c_spec_biAt (b : Bt) (B m i : Nat) (hw : lI b.words = wordsN B m) (hi : i < 16 * m) (hm : m ≤ 1000000) : Fn Tryz.prog 58 [eB b, .int .i64 i] (· = .bool (B.testBit i)) := by
  refine Fn.of free_bool fun h => ?_
  refine enter (by kernel_rfl) e58 (by kernel_rfl) rfl fun hok => ?_
  simp only [r58, initEnv_2]
  have hln : (lI b.words).length = m := by rw [hw, wordsN_len]
  have hat := at_word hw hi
  (try (simp (disch := first | omega | (simp <;> omega) | fail) only [push_cast, ↓reduceIte, Nat.reduceEqDiff, Nat.reduceAdd, Nat.reduceMul, Nat.reduceSub, Nat.reduceLT, Int.reduceToNat]))
  rw [← hat]
  (first | refine goC_split (fun hc => ?_) (fun hc => ?_) | refine cnd_split (fun hc => ?_) (fun hc => ?_)) <;> ((try (simp (disch := first | omega | (simp <;> omega) | fail) only [push_cast, ↓reduceIte, Nat.reduceEqDiff, Nat.reduceAdd, Nat.reduceMul, Nat.reduceSub, Nat.reduceLT, Int.reduceToNat]))) <;> (try rw [hc])

/-- Three slices that grow, apart. -/
def G3 (n0 : Nat) (h' : H) (v4 : AV) (L4 : List AV) (v5 : AV) (L5 : List AV) (v6 : AV) (L6 : List AV) : Prop :=
  n0 ≤ h'.length ∧ ∃ B4 B5 B6, (S1 h' 1 v4 L4.length L4 B4 ∧ S1 h' 1 v5 L5.length L5 B5 ∧ S1 h' 1 v6 L6.length L6 B6) ∧ (∀ k ∈ B4, n0 ≤ k ∧ k ∉ B5 ∧ k ∉ B6) ∧ (∀ k ∈ B5, n0 ≤ k ∧ k ∉ B6) ∧ ∀ k ∈ B6, n0 ≤ k
theorem G3.len {n0 : Nat} {h' : H} {v4 v5 v6 : AV} {L4 L5 L6 : List AV} (hs : G3 n0 h' v4 L4 v5 L5 v6 L6) : lenA v4 = some (.int .i64 L4.length) := by
  obtain ⟨h0, B4, B5, B6, ⟨a, b, c⟩, h4, h5, h6⟩ := hs
  rcases a.2 with ⟨rfl, h0, _⟩ | ⟨b, rfl, _⟩
  · rw [h0]
    rfl
  · rfl
theorem G3.app {n0 by_ : Nat} {h' : H} {v4 v5 v6 x : AV} {L4 L5 L6 : List AV} {pm : Nat → Prop} {Q : AV → H → Prop} (hs : G3 n0 h' v4 L4 v5 L5 v6 L6) (hpm : ∀ c, n0 ≤ c → pm c) (hL : L4.length ≤ 1000000) (hby : by_ ≤ 16)
    (hQ : ∀ v' h'', G3 n0 h'' v' (L4 ++ [x]) v5 L5 v6 L6 → (∀ c, c < n0 → h''[c]? = h'[c]?) → h'.length ≤ h''.length → Q v' h'') : apA pm (h' ++ [some (.cells [x])]) Q 1 by_ (some ([x], 1)) v4 := by
  obtain ⟨hn, B4, B5, B6, ⟨s4, s5, s6⟩, h4, h5, h6⟩ := hs
  have hs2 := s4.frame (h' := h' ++ [some (.cells [x])]) fun c hc => List.getElem?_append_left (s4.lt c hc)
  have hmul : (L4.length + 1) * by_ ≤ 1000001 * 16 := Nat.mul_le_mul (by omega) hby
  refine hs2.app (fun c hc => hpm c (h4 c hc).1) rfl (by decide) (by omega) fun v' h'' B' q1 q2 q3 q4 => ?_
  simp only [List.length_append, List.length_cons, List.length_nil] at q2 q4 q3
  have hk : ∀ c, c < h'.length → c ∉ B4 → h''[c]? = h'[c]? := fun c hc hn => (q3 c (by omega) hn).trans (List.getElem?_append_left hc)
  refine hQ v' h'' ⟨by omega, B', B5, B6, ⟨by simpa using q1, s5.frame fun c hc => hk c (s5.lt c hc) fun h => (h4 c h).2.1 hc, s6.frame fun c hc => hk c (s6.lt c hc) fun h => (h4 c h).2.2 hc⟩, fun k hk2 => ?_, h5, h6⟩ (fun c hc => hk c (by omega) fun h => by have := (h4 c h).1; omega) (by omega)
  rcases q4 k hk2 with h7 | h7
  · exact h4 k h7
  · exact ⟨by omega, fun h => by have := s5.lt k h; omega, fun h => by have := s6.lt k h; omega⟩
theorem G3.nil {n0 : Nat} {h' : H} (hn : n0 ≤ h'.length) : G3 n0 h' .nils [] .nils [] .nils [] := ⟨hn, [], [], [], ⟨S1.nil, S1.nil, S1.nil⟩, by simp, by simp, by simp⟩
theorem G3.frame {n0 : Nat} {h' h2 : H} {v4 v5 v6 : AV} {L4 L5 L6 : List AV} (hs : G3 n0 h' v4 L4 v5 L5 v6 L6) (hk : ∀ k, n0 ≤ k → k < h'.length → h2[k]? = h'[k]?) (hl : h'.length ≤ h2.length) : G3 n0 h2 v4 L4 v5 L5 v6 L6 := by
  obtain ⟨hn, B4, B5, B6, ⟨s4, s5, s6⟩, h4, h5, h6⟩ := hs
  exact ⟨by omega, B4, B5, B6, ⟨s4.frame fun c hc => hk c (h4 c hc).1 (s4.lt c hc), s5.frame fun c hc => hk c (h5 c hc).1 (s5.lt c hc), s6.frame fun c hc => hk c (h6 c hc) (s6.lt c hc)⟩, h4, h5, h6⟩
theorem G3.one {n0 : Nat} {h' : H} {v4 v5 v6 : AV} {L4 L5 L6 : List AV} (hs : G3 n0 h' v4 L4 v5 L5 v6 L6) : ∃ B, S1 h' 1 v4 L4.length L4 B ∧ ∀ k ∈ B, n0 ≤ k := by
  obtain ⟨hn, B4, B5, B6, ⟨s4, s5, s6⟩, h4, h5, h6⟩ := hs
  exact ⟨B4, s4, fun k hk => (h4 k hk).1⟩
theorem Tri.after {N : List Str} (h : Tri N) {k : Nat} (hk : k < N.length) : (N.drop (k + 1)).filter (chB N[k]) = ch N N[k] := by
  have hsp : N = N.take (k + 1) ++ N.drop (k + 1) := (List.take_append_drop _ _).symm
  unfold ch
  conv => rhs; arg 2; rw [hsp]
  rw [List.filter_append]
  have : (N.take (k + 1)).filter (chB N[k]) = [] := by
    rw [List.filter_eq_nil_iff]
    intro x hx hc
    obtain ⟨j, hj, rfl⟩ := List.mem_iff_getElem.1 hx
    rw [List.length_take] at hj
    rw [List.getElem_take] at hc
    have hl := (chB_iff.1 hc).1
    rcases Nat.lt_or_ge j k with h5 | h5
    · rcases List.pairwise_iff_getElem.1 h.pw j k (by omega) hk h5 with h7 | h7 <;> omega
    · have : N[j] = N[k] := by congr 1; omega
      rw [this] at hl
      omega
  rw [this, List.nil_append]
theorem GsI.owO {n0 n : Nat} {h' : H} {v : AV} {L : List Bool} (hs : GsI AV.bool n0 h' v L) (hn : n ≤ n0) : ∃ o, Ow h' [v] [eO o] (fun c => n ≤ c) ∧ lO o = L := by
  obtain ⟨_, B, hs, hB⟩ := hs
  rcases hs.2 with ⟨rfl, h0, _⟩ | ⟨b, rfl, hb, hcb⟩
  · exact ⟨none, .atom rfl .nil, (List.eq_nil_of_length_eq_zero h0).symm⟩
  · exact ⟨some L, ow_map (f := AV.bool) (fun _ => rfl) hcb rfl (by have := hB b (by rw [hb]; simp); omega), rfl⟩
theorem c_spec_biList_o (t : Bt) (h1 : okBt t = true) : FnO Tryz.prog 36 [eB t] (fun v => ∃ o, v = eO o ∧ lO o = btL t) := by
  intro h
  refine enter (by kernel_rfl) e36 (by kernel_rfl) rfl fun hok => ?_
  simp only [r36, initEnv_1]
  obtain ⟨w1, w2, w3, w4⟩ := okBt_num h1
  have hat : ∀ i, atB t i = (numW (lI t.words)).testBit i := fun _ => rfl
  have hbt : btL t = (List.range t.size.toNat).map (atB t) := rfl
  generalize btL t = R at hbt
  obtain ⟨sz, ws⟩ := t
  simp only at w1 w2 w3 w4 hat hbt
  obtain ⟨n, rfl⟩ : ∃ n : Nat, sz = (n : Int) := ⟨sz.toNat, by omega⟩
  rw [Int.toNat_natCast] at hbt
  (try (simp (disch := first | omega | (simp <;> omega) | fail) only [push_cast, ↓reduceIte, Nat.reduceEqDiff, Nat.reduceAdd, Nat.reduceMul, Nat.reduceSub, Nat.reduceLT, Int.reduceToNat]))
  refine T_for n (fun k e h' => ∃ v, Pins e [(1, .adr h.length 0), (3, v), (4, .int .i64 k)] ∧ (GsI AV.bool (h.length + 1) h' v ((List.range k).map (atB ⟨(n : Int), ws⟩)) ∧ H.cells h' h.length = some [.int .i64 n, eI ws])) ?_ ?_
  · refine ⟨.nils, ?_⟩
    (try (simp (disch := first | omega | (simp <;> omega) | fail) only [push_cast, ↓reduceIte, Nat.reduceEqDiff, Nat.reduceAdd, Nat.reduceMul, Nat.reduceSub, Nat.reduceLT, Int.reduceToNat]))
    all_goals (try exact ⟨GsI.nil (by simp), by rw [cells_h0]; rfl⟩)
    all_goals (try exact GsI.nil (by simp))
  rintro k e h' hk ⟨v, hp, hs, hbx⟩
  refine T_pins hp fun e => ?_
  (try (simp (disch := first | omega | (simp <;> omega) | fail) only [push_cast, ↓reduceIte, Nat.reduceEqDiff, Nat.reduceAdd, Nat.reduceMul, Nat.reduceSub, Nat.reduceLT, Int.reduceToNat, hbx]))
  first | refine goC_split (fun hc => ?_) (fun hc => ?_) | refine cnd_split (fun hc => ?_) (fun hc => ?_)
  · (try (simp only [decide_eq_true_eq, decide_eq_false_iff_not, Bool.not_eq_true', Bool.not_eq_false', Bool.and_eq_true, Bool.or_eq_true, Int.not_lt, Int.not_le] at hc)); (try (simp (disch := first | omega | (simp <;> omega) | fail) only [push_cast, ↓reduceIte, Nat.reduceEqDiff, Nat.reduceAdd, Nat.reduceMul, Nat.reduceSub, Nat.reduceLT, Int.reduceToNat]))
    have hk2 : k < n := by omega
    have hll : ((List.range k).map (atB ⟨(n : Int), ws⟩)).length = k := by simp
    (try (simp (disch := first | omega | (simp <;> omega) | fail) only [push_cast, ↓reduceIte, Nat.reduceEqDiff, Nat.reduceAdd, Nat.reduceMul, Nat.reduceSub, Nat.reduceLT, Int.reduceToNat, hbx]))
    refine (c_spec_biAt ⟨n, ws⟩ (numW (lI ws)) (lI ws).length k w1 (by omega) (by omega)).call ?_
    rw [← hat k]
    (try (simp (disch := first | omega | (simp <;> omega) | fail) only [push_cast, ↓reduceIte, Nat.reduceEqDiff, Nat.reduceAdd, Nat.reduceMul, Nat.reduceSub, Nat.reduceLT, Int.reduceToNat]))
    refine hs.app (by_ := 1) (fun c hc => Or.inr (by omega)) (by omega) (by decide) fun v' h'' q1 q2 q3 => ?_
    have e1 : (List.range k).map (atB ⟨(n : Int), ws⟩) ++ [atB ⟨(n : Int), ws⟩ k] = (List.range (k + 1)).map (atB ⟨(n : Int), ws⟩) := by
      rw [List.range_succ, List.map_append]
      rfl
    rw [e1] at q1
    have hbx2 := cells_keep (q2 h.length (by omega)) hbx
    (try (simp (disch := first | omega | (simp <;> omega) | fail) only [push_cast, ↓reduceIte, Nat.reduceEqDiff, Nat.reduceAdd, Nat.reduceMul, Nat.reduceSub, Nat.reduceLT, Int.reduceToNat]))
    all_goals (try exact ⟨_, rfl, q1, hbx2⟩)
  · (try (simp only [decide_eq_true_eq, decide_eq_false_iff_not, Bool.not_eq_true', Bool.not_eq_false', Bool.and_eq_true, Bool.or_eq_true, Int.not_lt, Int.not_le] at hc)); (try (simp (disch := first | omega | (simp <;> omega) | fail) only [push_cast, ↓reduceIte, Nat.reduceEqDiff, Nat.reduceAdd, Nat.reduceMul, Nat.reduceSub, Nat.reduceLT, Int.reduceToNat]))
    have hke : k = n := by omega
    subst hke
    obtain ⟨o, w, l4⟩ := hs.owO (n := h.length) (by omega)
    have hfin : ∃ t', Ow h' [v] [t'] (fun c => h.length ≤ c) ∧ ∃ o, t' = eO o ∧ lO o = R := ⟨_, w, o, rfl, by rw [l4, hbt]⟩
    (try (simp (disch := first | omega | (simp <;> omega) | fail) only [push_cast, ↓reduceIte, Nat.reduceEqDiff, Nat.reduceAdd, Nat.reduceMul, Nat.reduceSub, Nat.reduceLT, Int.reduceToNat]))
    all_goals (try exact hfin)

/-- A list of structs that grows, with the blocks that it may hold told by G. -/
def OwG (h : H) (G : Nat → Prop) (sz : Nat) (v : AV) (k : Nat) (ts : List AV) : Prop := (v = .nils ∧ k = 0 ∧ ts = []) ∨ Ow h [v] [.ro sz ts k] G
theorem OwG.mono {h : H} {G G' : Nat → Prop} {sz k : Nat} {v : AV} {ts : List AV} (ho : OwG h G sz v k ts) (hG : ∀ c, G c → G' c) : OwG h G' sz v k ts := by
  rcases ho with h0 | ho
  · exact .inl h0
  · exact .inr (ho.mono hG)
theorem OwG.frame {h h' : H} {G : Nat → Prop} {sz k : Nat} {v : AV} {ts : List AV} (ho : OwG h G sz v k ts) (hk : ∀ c, G c → h'[c]? = h[c]?) : OwG h' G sz v k ts := by
  rcases ho with h0 | ho
  · exact .inl h0
  · exact .inr (ho.frame hk)
theorem OwG.cell {h : H} {G : Nat → Prop} {sz k : Nat} {v : AV} {ts : List AV} (ho : OwG h G sz v k ts) : one v = true ∧ cellsOf v = [v] := by
  rcases ho with ⟨rfl, _, _⟩ | ho
  · exact ⟨rfl, rfl⟩
  · obtain ⟨b, rfl⟩ := ho.sl1
    exact ⟨rfl, rfl⟩
theorem OwG.app {h h2 : H} {G : Nat → Prop} {sz k by_ : Nat} {v : AV} {ts new nt : List AV} {pm : Nat → Prop} {Q : AV → H → Prop} (ho : OwG h G sz v k ts) (hpm : ∀ b, G b → pm b) (hl : h.length ≤ h2.length) (hk : ∀ c, G c → h2[c]? = h[c]?)
    (hn : Ow h2 new nt fun c => h.length ≤ c) (hsz : new.length = sz) (h1 : nt.all one = true) (hb : (k + 1) * by_ ≤ 140737488355328)
    (hQ : ∀ v' h', Ow h' [v'] [.ro sz (ts ++ nt) (k + 1)] (fun c => G c ∨ h.length ≤ c) → h2.length ≤ h'.length → (∀ c, c < h2.length → ¬ G c → h'[c]? = h2[c]?) → v' ≠ .nils → Q v' h') : apA pm h2 Q sz by_ (some (new, 1)) v := by
  have hnl := hn.len
  obtain ⟨V, v1, v2, v3⟩ := hn.exact_ (n0 := 0) (fun _ _ => Nat.zero_le _)
  have hV : ∀ c, V c → c < h2.length := fun c hc => by
    obtain ⟨l, hl, _⟩ := v2 c hc
    exact cells_lt hl
  rcases ho with ⟨rfl, rfl, rfl⟩ | ho
  · rw [apA_nil (by decide)]
    refine ⟨by simpa using hb, hQ _ _ ?_ (by simp) (fun c hc _ => List.getElem?_append_left hc) (by simp)⟩
    refine .sl (b := h2.length) (cs := new) (F := V) (F' := fun _ => False) (by rw [cells_h0]; rfl) (by omega) (by simpa using h1) (v3 _ fun c hc => List.getElem?_append_left (hV c hc)) .nil (.inr hl) (fun c hc => ⟨.inr (v1 c hc), by have := hV c hc; omega⟩) (fun c hc => hc.elim)
  · obtain ⟨b, cs, F, rfl, hc, hcl, hbn, hF, hin, hre⟩ := ho.open_
    have hbl := cells_lt hc
    obtain ⟨U, u1, u2, u3⟩ := hin.exact_ (n0 := 0) (fun _ _ => Nat.zero_le _)
    have hU : ∀ c, U c → c < h.length := fun c hc => by
      obtain ⟨l, hl, _⟩ := u2 c hc
      exact cells_lt hl
    have hc2 : h2.cells b = some cs := cells_keep_ (hk b hbn) hc
    have htsone : ts.all one = true := by
      cases ho with
      | sl _ _ h1 _ _ _ _ _ => exact h1
    rw [apA_sl, hc2, apC_grow (by decide) (by omega)]
    refine ⟨by omega, hpm b hbn, hb, ?_⟩
    have htk : (cs.drop 0).take (k * sz) = cs := by rw [List.drop_zero, ← hcl, List.take_length]
    rw [htk]
    have hg : ∀ c, c < h2.length → c ≠ b → (killed h2 b ++ [some (.cells (cs ++ new))])[c]? = h2[c]? := fun c hc hne => by
      rw [List.getElem?_append_left (by simpa [killed] using hc)]
      unfold killed
      exact List.getElem?_set_ne (Ne.symm hne)
    refine hQ _ _ ?_ (by simp [killed]) (fun c hc hn => hg c hc (fun he => hn (by rw [he]; exact hbn))) (by simp)
    have A := u3 (killed h2 b ++ [some (.cells (cs ++ new))]) fun c hc => (hg c (by have := hU c hc; omega) (hF c (u1 c hc)).2).trans (hk c (hF c (u1 c hc)).1)
    have B := v3 (killed h2 b ++ [some (.cells (cs ++ new))]) fun c hc => hg c (hV c hc) (by have := v1 c hc; omega)
    refine .sl (b := h2.length) (cs := cs ++ new) (F := fun c => U c ∨ V c) (F' := fun _ => False) ?_ ?_ ?_ (A.app B (fun c hc => .inl hc) (fun c hc => ⟨.inr hc, fun hu => by have := hU c hu; have := v1 c hc; omega⟩)) .nil (.inr hl) ?_ (fun c hc => hc.elim)
    · rw [cells_eq, List.getElem?_append_right (by simp [killed])]
      simp [killed, cellsO]
    · rw [List.length_append, hcl, hsz, Nat.succ_mul]
    · rw [List.all_append, Bool.and_eq_true]
      exact ⟨htsone, h1⟩
    · rintro c (hc | hc)
      · exact ⟨.inl (hF c (u1 c hc)).1, by have := hU c hc; omega⟩
      · exact ⟨.inr (v1 c hc), by have := hV c hc; omega⟩

theorem S1.vwB {h : H} {n0 : Nat} {v : AV} {l : List Bool} {B : List Nat} {n : Nat} (hs : S1 h 1 v n (l.map .bool) B) (hb : ∀ b ∈ B, n0 ≤ b) (hnn : v ≠ .nils) : Vw h n0 v (eO (some l)) := by
  have hvw := hs.vw (ts := l.map .bool) hb rfl (one_map fun _ => rfl) (fun i y t hy ht => by
    rw [hy] at ht
    injection ht with ht
    subst ht
    obtain ⟨s, _, rfl⟩ := List.mem_map.1 (List.mem_of_getElem? hy)
    exact .free free_bool)
  rcases hvw with ⟨_, h0, _⟩ | ⟨_, hv⟩
  · exact absurd h0 hnn
  · have : l.length = n := by simpa using hs.1
    subst this
    exact hv
theorem S1.vwB0 {h : H} {n0 n : Nat} {v : AV} {l : List Bool} {B : List Nat} (hs : S1 h 1 v n (l.map .bool) B) (hb : ∀ b ∈ B, n0 ≤ b) : ∃ o, Vw h n0 v (eO o) ∧ lO o = l := by
  by_cases hn : v = .nils
  · subst hn
    rcases hs.2 with ⟨_, h0, _⟩ | ⟨b, hh, _⟩
    · have hl : l = [] := List.eq_nil_of_length_eq_zero (by have := hs.1; simp at this; omega)
      exact ⟨none, .free free_nils, hl.symm⟩
    · cases hh
  · exact ⟨some l, hs.vwB hb hn, rfl⟩

/-- The bits that are drawn, so far. -/
def BdI (h h' : H) (b : Nat) (c : Option (List UInt8)) (K : Nat) (v : AV) (L : List Bool) : Prop :=
  h.length < h'.length ∧ b < h.length ∧ CurI h' b c K ∧ h'.cells h.length = some [.int .i64 0, .nils] ∧ (∀ k, k < h.length → k ≠ b → h'[k]? = h[k]?) ∧ ∃ B, S1 h' 1 v L.length (L.map .bool) B ∧ ∀ k ∈ B, h.length + 1 ≤ k
theorem BdI.step {h h' h2 : H} {b K K' : Nat} {c : Option (List UInt8)} {v : AV} {L : List Bool} (hp : BdI h h' b c K v L) (hs : CurS h' h2 b c K') : BdI h h2 b c K' v L := by
  obtain ⟨p1, p2, p3, p4, p5, B, p6, p7⟩ := hp
  obtain ⟨s1, s2, s3⟩ := hs
  exact ⟨by omega, p2, s3, cells_keep (s2 _ (by omega)) p4, fun k hk hn => (s2 k hn).trans (p5 k hk hn), B, p6.frame fun k hk => s2 k (by have := p7 k hk; omega), p7⟩
theorem BdI.app {h h' : H} {b K : Nat} {c : Option (List UInt8)} {v : AV} {L : List Bool} {q : Bool} {pm : Nat → Prop} {Q : AV → H → Prop} (hp : BdI h h' b c K v L) (hpm : ∀ k, h.length ≤ k → pm k) (hb : (L.length + 1) * 1 ≤ 140737488355328)
    (hQ : ∀ v' h2, BdI h h2 b c K v' (L ++ [q]) → Q v' h2) : apA pm (h' ++ [some (.cells [.bool q])]) Q 1 1 (some ([.bool q], 1)) v := by
  obtain ⟨p1, p2, p3, p4, p5, B, p6, p7⟩ := hp
  refine (p6.frame (h' := h' ++ _) fun k hk => List.getElem?_append_left (p6.lt k hk)).app0 (new := [.bool q]) (k := 1) (by_ := 1) (fun k hk => hpm k (by have := p7 k hk; omega)) rfl hb fun v2 h2 B2 a1 a2 a3 a4 a5 => ?_
  simp only [List.length_append, List.length_cons, List.length_nil] at a2 a3 a4
  have hk2 : ∀ k, k < h'.length → k ∉ B → h2[k]? = h'[k]? := fun k hk hn => (a3 k (by omega) hn).trans (List.getElem?_append_left hk)
  refine hQ v2 h2 ⟨by omega, p2, p3.frame (hk2 _ (by omega) fun hb => by have := p7 _ hb; omega), cells_keep (hk2 _ p1 fun hb => by have := p7 _ hb; omega) p4, fun k hk hn => (hk2 k (by omega) fun hb => by have := p7 _ hb; omega).trans (p5 k hk hn), B2, by simpa using a1, fun k hk => ?_⟩
  rcases a4 k hk with h5 | h5
  · exact p7 k h5
  · omega

theorem c_spec_l1Cur_bits (b : Nat) (c : Option (List UInt8)) (K : Nat) (h : H) (most : Nat) (hc : CurI h b c K) (hK : K ≤ 100000000) (h1 : 1 ≤ most) (h2 : most ≤ 150) :
    Call Tryz.prog 78 [.adr b 0, .int .i64 most] h (fun b' => b' = b) (fun x h' => ∃ (n m bb B : Nat), x = .agg [.int .i64 n, .sl bb 0 1 m m] ∧ n ≤ most ∧ (((n : Int) + 15) / 16) = (m : Int) ∧ h.length ≤ bb ∧ h.length ≤ h'.length ∧ (∀ k, k < h.length → k ≠ b → h'[k]? = h[k]?) ∧ CurI h' b c (K + 1 + most) ∧ h'.cells bb = some ((wordsN B m).map (.int .i64))) := by
  refine enter (by kernel_rfl) e78 (by kernel_rfl) rfl fun hok => ?_
  simp only [r78, initEnv_2]
  have hbl := hc.lt
  (try (simp (disch := first | omega | (simp <;> omega) | fail) only [push_cast, ↓reduceIte, Nat.reduceEqDiff, Nat.reduceAdd, Nat.reduceMul, Nat.reduceSub, Nat.reduceLT, Int.reduceToNat]))
  refine (c_spec_l1Cur_pick b c K _ ((most : Int) + 1) (hc.frame (List.getElem?_append_left hbl)) (by omega) (by omega) (by omega)).mono (fun x h3 hx => ?_) (fun b' _ hb' => Or.inl hb')
  obtain ⟨⟨n0, rfl, m0, m1⟩, hs⟩ := hx
  obtain ⟨n, rfl⟩ : ∃ n : Nat, n0 = (n : Int) := ⟨n0.toNat, by omega⟩
  have hp0 : BdI h h3 b c (K + 1) .nils [] := by
    obtain ⟨s1, s2, s3⟩ := hs
    simp only [List.length_append, List.length_cons, List.length_nil] at s1
    exact ⟨by omega, hbl, s3, cells_keep (s2 _ (by omega)) (by rw [cells_h0]; rfl), fun k hk hn => (s2 k hn).trans (List.getElem?_append_left hk), [], by simpa using S1.nil, by simp⟩
  (try (simp (disch := first | omega | (simp <;> omega) | fail) only [push_cast, ↓reduceIte, Nat.reduceEqDiff, Nat.reduceAdd, Nat.reduceMul, Nat.reduceSub, Nat.reduceLT, Int.reduceToNat]))
  refine T_for n (fun i e h' => ∃ v L, Pins e [(0, .adr b 0), (4, .adr h.length 0), (5, v), (6, .int .i64 ((n : Int) - i))] ∧ BdI h h' b c (K + 1 + i) v L ∧ L.length = i) ?_ ?_
  · refine ⟨.nils, [], ?_, hp0, rfl⟩
    (try (simp (disch := first | omega | (simp <;> omega) | fail) only [push_cast, ↓reduceIte, Nat.reduceEqDiff, Nat.reduceAdd, Nat.reduceMul, Nat.reduceSub, Nat.reduceLT, Int.reduceToNat]))
    all_goals (try simp)
  rintro i e h' hi ⟨v, L, hp, hb, hL⟩
  refine T_pins hp fun e => ?_
  (try (simp (disch := first | omega | (simp <;> omega) | fail) only [push_cast, ↓reduceIte, Nat.reduceEqDiff, Nat.reduceAdd, Nat.reduceMul, Nat.reduceSub, Nat.reduceLT, Int.reduceToNat]))
  first | refine goC_split (fun hd => ?_) (fun hd => ?_) | refine cnd_split (fun hd => ?_) (fun hd => ?_)
  · (try (simp only [decide_eq_true_eq, decide_eq_false_iff_not, Bool.not_eq_true', Bool.not_eq_false', Bool.and_eq_true, Bool.or_eq_true, Int.not_lt, Int.not_le] at hd)); (try (simp (disch := first | omega | (simp <;> omega) | fail) only [push_cast, ↓reduceIte, Nat.reduceEqDiff, Nat.reduceAdd, Nat.reduceMul, Nat.reduceSub, Nat.reduceLT, Int.reduceToNat]))
    have hi2 : i < n := by omega
    refine (c_spec_l1Cur_one b c (K + 1 + i) h' 2 hb.2.2.1 (by omega) (by omega) (by omega)).mono (fun x h4 hx => ?_) (fun b' _ hb' => Or.inl hb')
    obtain ⟨⟨t, rfl⟩, hs4⟩ := hx
    have hb4 := hb.step hs4
    (try (simp (disch := first | omega | (simp <;> omega) | fail) only [push_cast, ↓reduceIte, Nat.reduceEqDiff, Nat.reduceAdd, Nat.reduceMul, Nat.reduceSub, Nat.reduceLT, Int.reduceToNat]))
    refine BdI.app hb4 (fun k hk => Or.inr hk) (by omega) fun v2 h5 hb5 => ?_
    (try (simp (disch := first | omega | (simp <;> omega) | fail) only [push_cast, ↓reduceIte, Nat.reduceEqDiff, Nat.reduceAdd, Nat.reduceMul, Nat.reduceSub, Nat.reduceLT, Int.reduceToNat]))
    have hb6 : BdI h h5 b c (K + 1 + (i + 1)) v2 (L ++ [t]) := hb5
    have hn6 : ((n : Int) - i) - 1 = (n : Int) - ((i : Int) + 1) := by omega
    all_goals (try exact ⟨_, _, rfl, hb6, by simp [hL]⟩)
    all_goals (try exact ⟨_, _, ⟨rfl, by omega⟩, hb6, by simp [hL]⟩)
    all_goals (try exact ⟨_, _, ⟨rfl, by rw [hn6]⟩, hb6, by simp [hL]⟩)
  · (try (simp only [decide_eq_true_eq, decide_eq_false_iff_not, Bool.not_eq_true', Bool.not_eq_false', Bool.and_eq_true, Bool.or_eq_true, Int.not_lt, Int.not_le] at hd)); (try (simp (disch := first | omega | (simp <;> omega) | fail) only [push_cast, ↓reduceIte, Nat.reduceEqDiff, Nat.reduceAdd, Nat.reduceMul, Nat.reduceSub, Nat.reduceLT, Int.reduceToNat]))
    have hie : i = n := by omega
    subst hie
    obtain ⟨p1, p2, p3, p4, p5, B, p6, p7⟩ := hb
    obtain ⟨o, ho1, ho2⟩ := (p6.frame (h' := filt (fun k => decide (h.length + 1 ≤ k)) h') fun k hk => filt_t (by simpa using p7 k hk)).vwB0 (n0 := 0) (fun _ _ => Nat.zero_le _)
    (try (simp (disch := first | omega | (simp <;> omega) | fail) only [push_cast, ↓reduceIte, Nat.reduceEqDiff, Nat.reduceAdd, Nat.reduceMul, Nat.reduceSub, Nat.reduceLT, Int.reduceToNat]))
    refine Call.sink (fun k => decide (h.length + 1 ≤ k)) (ts := [eO o]) rfl (fun k x t hx ht => ?_) (fun b _ hb => Or.inr (by have := of_decide_eq_true hb; omega)) ?_
    · rcases k with _ | k
      · simp at hx ht
        subst hx ht
        exact .inr ho1
      · simp at hx
    have hol : (lO o).length = i := by rw [ho2, hL]
    have g1 : H.cells (filt (fun k => !decide (h.length + 1 ≤ k)) h') h.length = some [.int .i64 0, .nils] := cells_keep (filt_t (by simp)) p4
    have g2 : ∀ k, k < h.length → (filt (fun k => !decide (h.length + 1 ≤ k)) h')[k]? = h'[k]? := fun k hk => filt_t (by simp; omega)
    have g3 : h.length < (filt (fun k => !decide (h.length + 1 ≤ k)) h').length := by rw [filt_len]; exact p1
    have g4 := p3.frame (g2 b p2)
    generalize filt (fun k => !decide (h.length + 1 ≤ k)) h' = g at *
    refine (c_spec_biSome o ((i + 15) / 16) (by rw [hol]; omega) (by omega) g).mono (fun x g5 hx => ?_) (fun _ _ h => h.elim)
    rw [hol] at hx
    generalize bitN (lO o) i = X at hx
    obtain ⟨bb, rfl, q1, q2, q3, q4⟩ := hx
    have r1 := cells_keep (q3 _ g3) g1
    have hw := cells_wr2 (cells_lt r1) (cs := [AV.int .i64 (i : Int), .sl bb 0 1 ((i + 15) / 16) ((i + 15) / 16)])
    have hpm : (h.length ≤ h.length) = True := by simp
    have hwk : ∀ k, k ≠ h.length → (wr g5 h.length [AV.int .i64 (i : Int), .sl bb 0 1 ((i + 15) / 16) ((i + 15) / 16)])[k]? = g5[k]? := fun k hk => by
      unfold wr
      rw [List.getElem?_set_ne (Ne.symm hk)]
    have f1 : ∀ k, k < h.length → k ≠ b → (wr g5 h.length [AV.int .i64 (i : Int), .sl bb 0 1 ((i + 15) / 16) ((i + 15) / 16)])[k]? = h[k]? := fun k hk hn => (hwk k (by omega)).trans ((q3 k (by omega)).trans ((g2 k hk).trans (p5 k hk hn)))
    have f2 : CurI (wr g5 h.length [AV.int .i64 (i : Int), .sl bb 0 1 ((i + 15) / 16) ((i + 15) / 16)]) b c (K + 1 + most) := ((g4.frame (q3 b (by omega))).frame (hwk b (by omega))).mono (by omega)
    have f3 := cells_keep (hwk bb (by omega)) q4
    have f4 : h.length ≤ (wr g5 h.length [AV.int .i64 (i : Int), .sl bb 0 1 ((i + 15) / 16) ((i + 15) / 16)]).length := by simp [wr]; omega
    (try (simp (disch := first | omega | (simp <;> omega) | fail) only [push_cast, ↓reduceIte, Nat.reduceEqDiff, Nat.reduceAdd, Nat.reduceMul, Nat.reduceSub, Nat.reduceLT, Int.reduceToNat, r1, hpm, hw]))
    all_goals (try exact ⟨i, (i + 15) / 16, bb, X, rfl, by omega, by omega, by omega, f4, f1, f2, f3⟩)
    all_goals (try exact ⟨i, (i + 15) / 16, bb, X, rfl, by omega, by omega, by omega, f1, f2, f3⟩)

/-- A vector of the call's own, in a box. -/
def AbI (h h' : H) (b : Nat) (c : Option (List UInt8)) (K b3 N : Nat) : Prop :=
  b < h.length ∧ h.length + 1 ≤ b3 ∧ CurI h' b c K ∧ h'.cells h.length = some [.int .i64 0, .nils] ∧ (∀ k, k < h.length → k ≠ b → h'[k]? = h[k]?) ∧
  ∃ (n : Int) (v : AV) (l : List Int), h'.cells b3 = some [.int .i64 n, v] ∧ -(N : Int) ≤ n ∧ n ≤ 5000 + (N : Int) ∧ l.length ≤ N ∧ (∃ bb, v = .sl bb 0 1 l.length l.length ∧ h'.cells bb = some (l.map (.int .i64)) ∧ h.length + 1 ≤ bb ∧ bb ≠ b3)
theorem AbI.step {h h' h2 : H} {b K K' b3 N : Nat} {c : Option (List UInt8)} (hp : AbI h h' b c K b3 N) (hs : CurS h' h2 b c K') : AbI h h2 b c K' b3 N := by
  obtain ⟨p1, p2, p3, p4, p5, n, v, l, p6, p7, p8, p9, bb, p10, p11, p12, p13⟩ := hp
  obtain ⟨s1, s2, s3⟩ := hs
  exact ⟨p1, p2, s3, cells_keep (s2 _ (by omega)) p4, fun k hk hn => (s2 k hn).trans (p5 k hk hn), n, v, l, cells_keep (s2 _ (by omega)) p6, p7, p8, p9, bb, p10, cells_keep (s2 _ (by omega)) p11, p12, p13⟩
theorem AbI.more {h h' l : H} {b K b3 N : Nat} {c : Option (List UInt8)} (hp : AbI h h' b c K b3 N) : AbI h (h' ++ l) b c K b3 N := by
  obtain ⟨p1, p2, p3, p4, p5, n, v, l, p6, p7, p8, p9, bb, p10, p11, p12, p13⟩ := hp
  have h0 := cells_lt p4
  exact ⟨p1, p2, p3.frame (List.getElem?_append_left p3.lt), cells_app p4, fun k hk hn => (List.getElem?_append_left (by omega)).trans (p5 k hk hn), n, v, l, cells_app p6, p7, p8, p9, bb, p10, cells_app p11, p12, p13⟩
theorem AbI.monoK {h h' : H} {b K K' b3 N : Nat} {c : Option (List UInt8)} (hp : AbI h h' b c K b3 N) (hk : K ≤ K') : AbI h h' b c K' b3 N := by
  obtain ⟨p1, p2, p3, p4⟩ := hp
  exact ⟨p1, p2, p3.mono hk, p4⟩
theorem AbI.store {h g g2 : H} {b K b3 N N2 bb2 : Nat} {c : Option (List UInt8)} {n2 : Int} {l2 : List Int} (hp : AbI h g b c K b3 N) (hk : ∀ k, k < h.length + 1 ∨ k = b3 → g2[k]? = g[k]?) (hl : g.length ≤ g2.length) (h1 : -(N2 : Int) ≤ n2) (h2 : n2 ≤ 5000 + (N2 : Int)) (h3 : l2.length ≤ N2) (hb : g2.cells bb2 = some (l2.map (.int .i64))) (hb1 : h.length + 1 ≤ bb2) (hb2 : bb2 ≠ b3) :
    AbI h (wr g2 b3 [.int .i64 n2, .sl bb2 0 1 l2.length l2.length]) b c K b3 N2 := by
  obtain ⟨p1, p2, p3, p4, p5, n, v, l, p6, _⟩ := hp
  have hb3 := cells_lt p6
  have hw : ∀ k, k ≠ b3 → (wr g2 b3 [.int .i64 n2, .sl bb2 0 1 l2.length l2.length])[k]? = g2[k]? := fun k hk => by
    unfold wr
    rw [List.getElem?_set_ne (Ne.symm hk)]
  exact ⟨p1, p2, p3.frame ((hw _ (by omega)).trans (hk _ (.inl (by omega)))), cells_keep ((hw _ (by omega)).trans (hk _ (.inl (by omega)))) p4, fun k hk1 hn => (hw _ (by omega)).trans ((hk _ (.inl (by omega))).trans (p5 k hk1 hn)), n2, _, l2, cells_wr2 (by omega), h1, h2, h3, bb2, rfl, cells_keep (hw _ hb2) hb, hb1, hb2⟩
theorem AbI.put {h g : H} {b K b3 N bb : Nat} {c : Option (List UInt8)} {n : Int} {l l2 : List Int} (hp : AbI h g b c K b3 N) (h6 : g.cells b3 = some [.int .i64 n, .sl bb 0 1 l.length l.length]) (hn1 : -(N : Int) ≤ n) (hn2 : n ≤ 5000 + (N : Int)) (hN : l.length ≤ N) (hb1 : h.length + 1 ≤ bb) (hb2 : bb ≠ b3) (hb : bb < g.length) (hl : l2.length = l.length) :
    AbI h (wr g bb (l2.map (.int .i64))) b c K b3 N := by
  obtain ⟨p1, p2, p3, p4, p5, _⟩ := hp
  have hw : ∀ k, k ≠ bb → (wr g bb (l2.map (.int .i64)))[k]? = g[k]? := fun k hk => by
    unfold wr
    rw [List.getElem?_set_ne (Ne.symm hk)]
  exact ⟨p1, p2, p3.frame (hw _ (by omega)), cells_keep (hw _ (by omega)) p4, fun k hk1 hn => (hw _ (by omega)).trans (p5 k hk1 hn), n, _, l2, cells_keep (hw _ (Ne.symm hb2)) h6, hn1, hn2, by omega, bb, by rw [hl], cells_wr2 hb, hb1, hb2⟩
theorem set_over2 {vs : List Int} {i : Nat} {x : Int} (hi : i < vs.length) : over (vs.map (AV.int .i64)) i [.int .i64 x] = (vs.set i x).map (.int .i64) := by
  rw [over_set (by simpa using hi), List.map_set]

set_option maxHeartbeats 4000000 in
theorem c_spec_l1Cur_anyBits_x (b : Nat) (c : Option (List UInt8)) (K : Nat) (h : H) (hc : CurI h b c K) (hK : K ≤ 10000000) :
    Call Tryz.prog 38 [.adr b 0] h (fun b' => b' = b) (fun x h' => ∃ (n : Int) (l : List Int) (bb : Nat), n ≤ 5300 ∧ x = .agg [.int .i64 n, .sl bb 0 1 l.length l.length] ∧ l.length ≤ 300 ∧ h.length ≤ bb ∧ h.length ≤ h'.length ∧ (∀ k, k < h.length → k ≠ b → h'[k]? = h[k]?) ∧ CurI h' b c (K + 60) ∧ h'.cells bb = some (l.map (.int .i64))) := by
  refine enter (by kernel_rfl) e38 (by kernel_rfl) rfl fun hok => ?_
  simp only [r38, initEnv_1]
  generalize hD : RCode.block 0 _ = D
  have hbl := hc.lt
  (try (simp (disch := first | omega | (simp <;> omega) | fail) only [push_cast, ↓reduceIte, Nat.reduceEqDiff, Nat.reduceAdd, Nat.reduceMul, Nat.reduceSub, Nat.reduceLT, Int.reduceToNat]))
  refine (c_spec_l1Cur_bits b c K _ 40 (hc.frame (List.getElem?_append_left hbl)) (by omega) (by omega) (by omega)).mono (fun x h1 hx => ?_) (fun b' _ hb' => Or.inl hb')
  obtain ⟨n, m, bb, B, rfl, q1, q2, q3, q4, q5, q6, q7⟩ := hx
  simp only [List.length_append, List.length_cons, List.length_nil] at q3 q4
  have hA : AbI h (h1 ++ [some (.cells [.int .i64 n, .sl bb 0 1 m m])]) b c (K + 41) h1.length 10 := by
    have hb1 := cells_lt q7
    refine ⟨hbl, by omega, (q6.frame (List.getElem?_append_left q6.lt)).mono (by omega), cells_app (cells_keep (q5 h.length (by simp) (by omega)) (by rw [cells_h0]; rfl)), fun k hk hn => (List.getElem?_append_left (by omega)).trans ((q5 k (by simp; omega) hn).trans (List.getElem?_append_left hk)), n, _, wordsN B m, by rw [cells_h0]; rfl, by omega, by omega, by rw [wordsN_len]; omega, bb, by rw [wordsN_len], cells_app q7, by omega, by omega⟩
  clear q1 q2 q5 q6 q7
  have hb3 : h1.length = h1.length := rfl
  (try (simp (disch := first | omega | (simp <;> omega) | fail) only [push_cast, ↓reduceIte, Nat.reduceEqDiff, Nat.reduceAdd, Nat.reduceMul, Nat.reduceSub, Nat.reduceLT, Int.reduceToNat]))
  generalize hG : h1 ++ [some (.cells [.int .i64 (n : Int), .sl bb 0 1 m m])] = g at *
  generalize h1.length = b3 at *
  refine (c_spec_l1Cur_pick b c (K + 41) _ 16 hA.2.2.1 (by omega) (by omega) (by omega)).mono (fun x h2 hx => ?_) (fun b' _ hb' => Or.inl hb')
  obtain ⟨⟨k, rfl, k0, k1⟩, hs⟩ := hx
  have hA2 := hA.step hs
  clear hA hG hs
  (try (simp (disch := first | omega | (simp <;> omega) | fail) only [push_cast, ↓reduceIte, Nat.reduceEqDiff, Nat.reduceAdd, Nat.reduceMul, Nat.reduceSub, Nat.reduceLT, Int.reduceToNat]))
  refine T_cut (fun e g => Pins e [(2, .adr h.length 0), (3, .adr b3 0)] ∧ AbI h g b c (K + 60) b3 300) ?_ ?_
  · rw [← hD]
    obtain ⟨p1, p2, p3, p4, p5, n, v, l, p6, p7, p8, p9, bb, hv, p11, p12, p13⟩ := id hA2
    have hv1 : one v = true := by rw [hv]; rfl
    have hv2 : cellsOf v = [v] := by rw [hv]; rfl
    have hb3 := cells_lt p6
    have hbb := cells_lt p11
    have p6' : ∀ l' : H, H.cells (h2 ++ l') b3 = some [.int .i64 n, v] := fun l' => cells_app p6
    by_cases z0 : k = 0
    · (try (simp (disch := first | omega | (simp <;> omega) | fail) only [push_cast, ↓reduceIte, Nat.reduceEqDiff, Nat.reduceAdd, Nat.reduceMul, Nat.reduceSub, Nat.reduceLT, Int.reduceToNat, z0, p6, reads, List.mem_cons, List.mem_append, List.not_mem_nil, nat_ff, or_self, or_false, false_or, not_false_eq_true]))
      repeat' (with_reducible refine And.intro ?_ ?_)
      all_goals
        refine (c_spec_l1Cur_pick b c (K + 42) _ 2 hA2.2.2.1 (by omega) (by omega) (by omega)).mono (fun x h4 hx => ?_) (fun b' _ hb' => Or.inl hb')
        obtain ⟨⟨q, rfl, q0, q1⟩, hs⟩ := hx
        have hA4 := hA2.step hs
        have r6 := cells_keep (hs.2.1 b3 (by omega)) p6
        have r6' : ∀ l' : H, H.cells (h4 ++ l') b3 = some [.int .i64 n, v] := fun l' => cells_app r6
        have r11 := cells_keep (hs.2.1 bb (by omega)) p11
        have hs1 : S1 h4 1 v l.length (l.map (.int .i64)) [bb] := ⟨by simp, .inr ⟨bb, hv, rfl, r11⟩⟩
        have l4 := cells_lt r11
        have l5 := cells_lt r6
        (try (simp (disch := first | omega | (simp <;> omega) | fail) only [push_cast, ↓reduceIte, Nat.reduceEqDiff, Nat.reduceAdd, Nat.reduceMul, Nat.reduceSub, Nat.reduceLT, Int.reduceToNat, r6, r6', reads, List.mem_cons, List.mem_append, List.not_mem_nil, nat_ff, or_self, or_false, false_or, not_false_eq_true]))
        repeat' (with_reducible refine And.intro ?_ ?_)
      all_goals
        refine (hs1.frame (h' := h4 ++ _) fun k hk => List.getElem?_append_left (hs1.lt k hk)).app0 (new := [.int .i64 q]) (k := 1) (by_ := 8) (fun k hk => Or.inr (by simp at hk; omega)) rfl (by omega) fun v2 h5 B2 a1 a2 a3 a4 a5 => ?_
        rcases a1.2 with ⟨_, h0, _⟩ | ⟨b2, rfl, rfl, hc2⟩
        · omega
        simp only [List.length_append, List.length_cons, List.length_nil] at a2 a3 a4
        have l6 := cells_lt p4
        have l7 := hs.1
        have hk5 : ∀ k, k < h.length + 1 ∨ k = b3 → h5[k]? = h4[k]? := fun k hk => (a3 k (by omega) (by simp; omega)).trans (List.getElem?_append_left (by omega))
        have hb2 := a4 b2 (by simp)
        simp only [List.mem_singleton] at hb2
        have hlen : (l ++ [q]).length = l.length + 1 := by simp
        have hfin := hA4.store (n2 := n) (l2 := l ++ [q]) (bb2 := b2) (N2 := 300) hk5 (by omega) (by omega) (by omega) (by rw [hlen]; omega) (by simpa using hc2) (by omega) (by omega)
        have t6 := cells_keep (hk5 b3 (.inr rfl)) r6
        rw [hlen] at hfin
        (try (simp (disch := first | omega | (simp <;> omega) | fail) only [push_cast, ↓reduceIte, Nat.reduceEqDiff, Nat.reduceAdd, Nat.reduceMul, Nat.reduceSub, Nat.reduceLT, Int.reduceToNat, t6, reads, List.mem_cons, List.mem_append, List.not_mem_nil, nat_ff, or_self, or_false, false_or, not_false_eq_true]))
        all_goals (try exact hfin.monoK (by omega))
    by_cases z1 : k = 1
    · (try (simp (disch := first | omega | (simp <;> omega) | fail) only [push_cast, ↓reduceIte, Nat.reduceEqDiff, Nat.reduceAdd, Nat.reduceMul, Nat.reduceSub, Nat.reduceLT, Int.reduceToNat, z1, p6, reads, List.mem_cons, List.mem_append, List.not_mem_nil, nat_ff, or_self, or_false, false_or, not_false_eq_true]))
      repeat' (with_reducible refine And.intro ?_ ?_)
      all_goals
        refine (c_spec_l1Cur_pick b c (K + 42) _ 3 hA2.2.2.1 (by omega) (by omega) (by omega)).mono (fun x h4 hx => ?_) (fun b' _ hb' => Or.inl hb')
        obtain ⟨⟨q, rfl, q0, q1⟩, hs⟩ := hx
        have hA4 := hA2.step hs
        have r6 := cells_keep (hs.2.1 b3 (by omega)) p6
        have r11 := cells_keep (hs.2.1 bb (by omega)) p11
        have hfin := hA4.store (n2 := n + (q - 1)) (l2 := l) (bb2 := bb) (N2 := 300) (fun _ _ => rfl) (Nat.le_refl _) (by omega) (by omega) (by omega) r11 (by omega) (by omega)
        rw [← hv] at hfin
        (try (simp (disch := first | omega | (simp <;> omega) | fail) only [push_cast, ↓reduceIte, Nat.reduceEqDiff, Nat.reduceAdd, Nat.reduceMul, Nat.reduceSub, Nat.reduceLT, Int.reduceToNat, r6, reads, List.mem_cons, List.mem_append, List.not_mem_nil, nat_ff, or_self, or_false, false_or, not_false_eq_true]))
      all_goals (try exact hfin.monoK (by omega))
    by_cases z2 : k = 2
    · have hlv : lenA v = some (.int .i64 l.length) := by rw [hv]; rfl
      have hrep : List.replicate 4 (AV.int .i64 0) = [.int .i64 0, .int .i64 0, .int .i64 0, .int .i64 0] := rfl
      have ov0 := fun x0 x1 x2 x3 y => (over4 x0 x1 x2 x3 y).1
      have ov1 := fun x0 x1 x2 x3 y => (over4 x0 x1 x2 x3 y).2.1
      have ov2 := fun x0 x1 x2 x3 y => (over4 x0 x1 x2 x3 y).2.2.1
      have ov3 := fun x0 x1 x2 x3 y => (over4 x0 x1 x2 x3 y).2.2.2
      have hfin0 : AbI h h2 b c (K + 60) b3 300 := by
        obtain ⟨o1, o2, o3, o4, o5, n', v', l', o6, o7, o8, o9, o10⟩ := hA2.monoK (show K + 41 + 1 ≤ K + 60 by omega)
        exact ⟨o1, o2, o3, o4, o5, n', v', l', o6, by omega, by omega, by omega, o10⟩
      have fin : ∀ (g h7 : H) (q m : Int) (K' : Nat), AbI h g b c K' b3 10 → CurS g h7 b c (K + 50) → g.cells b3 = some [.int .i64 n, v] → g.cells bb = some (l.map (.int .i64)) → h7.cells bb = some (l.map (.int .i64)) ∧ AbI h (wr h7 bb ((l.set q.toNat m).map (.int .i64))) b c (K + 60) b3 300 := fun g h7 q m K' hg hs g6 g11 => by
        have hA7 := (hg.step hs).monoK (show K + 50 ≤ K + 60 by omega)
        have t6 := cells_keep (hs.2.1 b3 (by omega)) g6
        have t11 := cells_keep (hs.2.1 bb (by omega)) g11
        rw [hv] at t6
        have := hA7.put (l2 := l.set q.toNat m) t6 p7 p8 p9 p12 p13 (cells_lt t11) (by simp)
        obtain ⟨o1, o2, o3, o4, o5, n', v', l', o6, o7, o8, o9, o10⟩ := this
        exact ⟨t11, o1, o2, o3, o4, o5, n', v', l', o6, by omega, by omega, by omega, o10⟩
      (try (simp (disch := first | omega | (simp <;> omega) | fail) only [push_cast, ↓reduceIte, Nat.reduceEqDiff, Nat.reduceAdd, Nat.reduceMul, Nat.reduceSub, Nat.reduceLT, Int.reduceToNat, z2, p6, hlv, reads, List.mem_cons, List.mem_append, List.not_mem_nil, nat_ff, or_self, or_false, false_or, not_false_eq_true]))
      first | refine goC_split (fun hd => ?_) (fun hd => ?_) | refine cnd_split (fun hd => ?_) (fun hd => ?_)
      · (try (simp only [decide_eq_true_eq, decide_eq_false_iff_not, Bool.not_eq_true', Bool.not_eq_false', Bool.and_eq_true, Bool.or_eq_true, Int.not_lt, Int.not_le] at hd)); (try (simp (disch := first | omega | (simp <;> omega) | fail) only [push_cast, ↓reduceIte, Nat.reduceEqDiff, Nat.reduceAdd, Nat.reduceMul, Nat.reduceSub, Nat.reduceLT, Int.reduceToNat]))
        subst hv
        have hpm2 : (bb = b ∨ h.length ≤ bb) = True := by rw [eq_iff_iff]; exact ⟨fun _ => trivial, fun _ => Or.inr (by omega)⟩
        (try (simp (disch := first | omega | (simp <;> omega) | fail) only [push_cast, ↓reduceIte, Nat.reduceEqDiff, Nat.reduceAdd, Nat.reduceMul, Nat.reduceSub, Nat.reduceLT, Int.reduceToNat, p6, p6', hrep, ov0, ov1, ov2, ov3, reads, List.mem_cons, List.mem_append, List.not_mem_nil, nat_ff, or_self, or_false, false_or, not_false_eq_true]))
        repeat' (with_reducible refine And.intro ?_ ?_)
        all_goals
          first
          | (refine (c_spec_l1Cur_pickAny b c (K + 42) h2 (l.length : Int) hA2.2.2.1 (by omega) (by omega)).mono (fun x h4 hx => ?_) (fun b' _ hb' => Or.inl hb')
             obtain ⟨⟨q, rfl, q0, q1⟩, hs⟩ := hx
             have hA4 := hA2.step hs
             have r6 := cells_keep (hs.2.1 b3 (by omega)) p6
             have r6' := fun l' : H => cells_app (l := l') r6
             have r11 := cells_keep (hs.2.1 bb (by omega)) p11
             have l4 := cells_lt r11
             have l5 := cells_lt r6
             (try (simp (disch := first | omega | (simp <;> omega) | fail) only [push_cast, ↓reduceIte, Nat.reduceEqDiff, Nat.reduceAdd, Nat.reduceMul, Nat.reduceSub, Nat.reduceLT, Int.reduceToNat, r6, r6', hrep, ov0, ov1, ov2, ov3, reads, List.mem_cons, List.mem_append, List.not_mem_nil, nat_ff, or_self, or_false, false_or, not_false_eq_true]))
             repeat' (with_reducible refine And.intro ?_ ?_)
             all_goals
               refine (c_spec_l1Cur_among b c (K + 43) (h4 ++ [some (AObj.cells (([-1, 65535, 65536, 40000] : List Int).map (.int .i64)))]) h4.length [-1, 65535, 65536, 40000] hA4.more.2.2.1 (by omega) (by decide) (by decide) (by rw [cells_h0]; rfl) (by omega)).mono (fun x h7 hx => ?_) (fun b' _ hb' => Or.inl hb')
               obtain ⟨⟨mm, rfl, _⟩, hs7⟩ := hx
               obtain ⟨t11, hfin⟩ := fin _ h7 q mm _ hA4.more ⟨hs7.1, hs7.2.1, hs7.2.2.mono (by omega)⟩ (cells_app r6) (cells_app r11)
               have t6 := cells_keep (hs7.2.1 b3 (by omega)) (cells_app r6)
               have hov := set_over2 (vs := l) (i := q.toNat) (x := mm) (by omega)
               have hll : (l.map (AV.int .i64)).length = l.length := by simp
               (try (simp (disch := first | omega | (simp <;> omega) | fail) only [push_cast, ↓reduceIte, Nat.reduceEqDiff, Nat.reduceAdd, Nat.reduceMul, Nat.reduceSub, Nat.reduceLT, Int.reduceToNat, t6, t11, hll, hov, hpm2, reads, List.mem_cons, List.mem_append, List.not_mem_nil, nat_ff, or_self, or_false, false_or, not_false_eq_true]))
               all_goals (try exact hfin))
          | (refine (c_spec_l1Cur_pickAny b c (K + 42) (h2 ++ [some (AObj.cells (([-1, 65535, 65536, 40000] : List Int).map (.int .i64)))]) (l.length : Int) hA2.more.2.2.1 (by omega) (by omega)).mono (fun x h4 hx => ?_) (fun b' _ hb' => Or.inl hb')
             obtain ⟨⟨q, rfl, q0, q1⟩, hs⟩ := hx
             have hA4 := hA2.more.step hs
             have r6 := cells_keep (hs.2.1 b3 (by omega)) (cells_app p6)
             have r6' := fun l' : H => cells_app (l := l') r6
             have r11 := cells_keep (hs.2.1 bb (by omega)) (cells_app p11)
             have rl : h4.cells h2.length = some (([-1, 65535, 65536, 40000] : List Int).map (.int .i64)) := cells_keep (hs.2.1 h2.length (by omega)) (by rw [cells_h0]; rfl)
             have l4 := cells_lt r11
             have l5 := cells_lt r6
             (try (simp (disch := first | omega | (simp <;> omega) | fail) only [push_cast, ↓reduceIte, Nat.reduceEqDiff, Nat.reduceAdd, Nat.reduceMul, Nat.reduceSub, Nat.reduceLT, Int.reduceToNat, r6, r6', reads, List.mem_cons, List.mem_append, List.not_mem_nil, nat_ff, or_self, or_false, false_or, not_false_eq_true]))
             repeat' (with_reducible refine And.intro ?_ ?_)
             all_goals
               refine (c_spec_l1Cur_among b c (K + 43) h4 h2.length [-1, 65535, 65536, 40000] hA4.2.2.1 (by omega) (by decide) (by decide) rl (by omega)).mono (fun x h7 hx => ?_) (fun b' _ hb' => Or.inl hb')
               obtain ⟨⟨mm, rfl, _⟩, hs7⟩ := hx
               obtain ⟨t11, hfin⟩ := fin _ h7 q mm _ hA4 ⟨hs7.1, hs7.2.1, hs7.2.2.mono (by omega)⟩ r6 r11
               have t6 := cells_keep (hs7.2.1 b3 (by omega)) r6
               have hov := set_over2 (vs := l) (i := q.toNat) (x := mm) (by omega)
               have hll : (l.map (AV.int .i64)).length = l.length := by simp
               (try (simp (disch := first | omega | (simp <;> omega) | fail) only [push_cast, ↓reduceIte, Nat.reduceEqDiff, Nat.reduceAdd, Nat.reduceMul, Nat.reduceSub, Nat.reduceLT, Int.reduceToNat, t6, t11, hll, hov, hpm2, reads, List.mem_cons, List.mem_append, List.not_mem_nil, nat_ff, or_self, or_false, false_or, not_false_eq_true]))
               all_goals (try exact hfin))
      · (try (simp only [decide_eq_true_eq, decide_eq_false_iff_not, Bool.not_eq_true', Bool.not_eq_false', Bool.and_eq_true, Bool.or_eq_true, Int.not_lt, Int.not_le] at hd)); (try (simp (disch := first | omega | (simp <;> omega) | fail) only [push_cast, ↓reduceIte, Nat.reduceEqDiff, Nat.reduceAdd, Nat.reduceMul, Nat.reduceSub, Nat.reduceLT, Int.reduceToNat]))
        (try (simp (disch := first | omega | (simp <;> omega) | fail) only [push_cast, ↓reduceIte, Nat.reduceEqDiff, Nat.reduceAdd, Nat.reduceMul, Nat.reduceSub, Nat.reduceLT, Int.reduceToNat, reads, List.mem_cons, List.mem_append, List.not_mem_nil, nat_ff, or_self, or_false, false_or, not_false_eq_true]))
        all_goals (try exact hfin0)
    by_cases z3 : k = 3
    · (try (simp (disch := first | omega | (simp <;> omega) | fail) only [push_cast, ↓reduceIte, Nat.reduceEqDiff, Nat.reduceAdd, Nat.reduceMul, Nat.reduceSub, Nat.reduceLT, Int.reduceToNat, z3, reads, List.mem_cons, List.mem_append, List.not_mem_nil, nat_ff, or_self, or_false, false_or, not_false_eq_true]))
      refine (c_spec_l1Cur_pick b c (K + 42) _ 2 hA2.2.2.1 (by omega) (by omega) (by omega)).mono (fun x h4 hx => ?_) (fun b' _ hb' => Or.inl hb')
      obtain ⟨⟨q, rfl, q0, q1⟩, hs⟩ := hx
      have hA4 := hA2.step hs
      have r6 := cells_keep (hs.2.1 b3 (by omega)) p6
      obtain ⟨nn, hnn⟩ : ∃ nn : Nat, (4096 : Int) - q = (nn : Int) := ⟨((4096 : Int) - q).toNat, by omega⟩
      (try (simp (disch := first | omega | (simp <;> omega) | fail) only [push_cast, ↓reduceIte, Nat.reduceEqDiff, Nat.reduceAdd, Nat.reduceMul, Nat.reduceSub, Nat.reduceLT, Int.reduceToNat, hnn]))
      refine (c_spec_biNew_own nn ((nn + 15) / 16) (by omega) (by omega) _).mono (fun x h5 hx => ?_) (fun _ _ h => h.elim)
      obtain ⟨b5, rfl, t1, ⟨p, rfl⟩, t3⟩ := hx
      have l6 := cells_lt p4
      have l7 := hs.1
      have l8 := cells_lt r6
      have hlen : (wordsN 0 ((nn + 15) / 16)).length = (nn + 15) / 16 := wordsN_len
      have hfin := hA4.store (g2 := h4 ++ p) (n2 := nn) (l2 := wordsN 0 ((nn + 15) / 16)) (bb2 := b5) (N2 := 300) (fun k hk => List.getElem?_append_left (by omega)) (by simp) (by omega) (by omega) (by omega) t3 (by omega) (by omega)
      rw [hlen] at hfin
      have t6 := cells_app (l := p) r6
      (try (simp (disch := first | omega | (simp <;> omega) | fail) only [push_cast, ↓reduceIte, Nat.reduceEqDiff, Nat.reduceAdd, Nat.reduceMul, Nat.reduceSub, Nat.reduceLT, Int.reduceToNat, r6, t6, reads, List.mem_cons, List.mem_append, List.not_mem_nil, nat_ff, or_self, or_false, false_or, not_false_eq_true]))
      all_goals (try exact hfin.monoK (by omega))
    by_cases z4 : k = 4
    · (try (simp (disch := first | omega | (simp <;> omega) | fail) only [push_cast, ↓reduceIte, Nat.reduceEqDiff, Nat.reduceAdd, Nat.reduceMul, Nat.reduceSub, Nat.reduceLT, Int.reduceToNat, z4, reads, List.mem_cons, List.mem_append, List.not_mem_nil, nat_ff, or_self, or_false, false_or, not_false_eq_true]))
      refine (c_spec_l1Cur_pick b c (K + 42) _ 5 hA2.2.2.1 (by omega) (by omega) (by omega)).mono (fun x h4 hx => ?_) (fun b' _ hb' => Or.inl hb')
      obtain ⟨⟨q, rfl, q0, q1⟩, hs⟩ := hx
      have hA4 := hA2.step hs
      have r6 := cells_keep (hs.2.1 b3 (by omega)) p6
      obtain ⟨nn, hnn⟩ : ∃ nn : Nat, (16 : Int) * q = (nn : Int) := ⟨((16 : Int) * q).toNat, by omega⟩
      (try (simp (disch := first | omega | (simp <;> omega) | fail) only [push_cast, ↓reduceIte, Nat.reduceEqDiff, Nat.reduceAdd, Nat.reduceMul, Nat.reduceSub, Nat.reduceLT, Int.reduceToNat, hnn]))
      refine (c_spec_biNew_own nn ((nn + 15) / 16) (by omega) (by omega) _).mono (fun x h5 hx => ?_) (fun _ _ h => h.elim)
      obtain ⟨b5, rfl, t1, ⟨p, rfl⟩, t3⟩ := hx
      have l6 := cells_lt p4
      have l7 := hs.1
      have l8 := cells_lt r6
      have hlen : (wordsN 0 ((nn + 15) / 16)).length = (nn + 15) / 16 := wordsN_len
      have hfin := hA4.store (g2 := h4 ++ p) (n2 := nn) (l2 := wordsN 0 ((nn + 15) / 16)) (bb2 := b5) (N2 := 300) (fun k hk => List.getElem?_append_left (by omega)) (by simp) (by omega) (by omega) (by omega) t3 (by omega) (by omega)
      rw [hlen] at hfin
      have t6 := cells_app (l := p) r6
      (try (simp (disch := first | omega | (simp <;> omega) | fail) only [push_cast, ↓reduceIte, Nat.reduceEqDiff, Nat.reduceAdd, Nat.reduceMul, Nat.reduceSub, Nat.reduceLT, Int.reduceToNat, r6, t6, reads, List.mem_cons, List.mem_append, List.not_mem_nil, nat_ff, or_self, or_false, false_or, not_false_eq_true]))
      all_goals (try exact hfin.monoK (by omega))
    have hfin : AbI h h2 b c (K + 60) b3 300 := by
      obtain ⟨o1, o2, o3, o4, o5, n', v', l', o6, o7, o8, o9, o10⟩ := hA2.monoK (show K + 41 + 1 ≤ K + 60 by omega)
      exact ⟨o1, o2, o3, o4, o5, n', v', l', o6, by omega, by omega, by omega, o10⟩
    (try (simp (disch := first | omega | (simp <;> omega) | fail) only [push_cast, ↓reduceIte, Nat.reduceEqDiff, Nat.reduceAdd, Nat.reduceMul, Nat.reduceSub, Nat.reduceLT, Int.reduceToNat, z0, z1, z2, z3, z4, reads, List.mem_cons, List.mem_append, List.not_mem_nil, nat_ff, or_self, or_false, false_or, not_false_eq_true]))
    all_goals (try exact hfin)
  rintro e g ⟨hp, hA3⟩
  refine K_pins hp fun e => ?_
  obtain ⟨p1, p2, p3, p4, p5, n, v, l, p6, p7, p8, p9, bb, rfl, p11, p12, p13⟩ := hA3
  have h0 := cells_lt p4
  have hw := cells_wr2 h0 (cs := [AV.int .i64 n, .sl bb 0 1 l.length l.length])
  have hpm : (h.length ≤ h.length) = True := by simp
  have hwk : ∀ k, k ≠ h.length → (wr g h.length [AV.int .i64 n, .sl bb 0 1 l.length l.length])[k]? = g[k]? := fun k hk => by
    unfold wr
    rw [List.getElem?_set_ne (Ne.symm hk)]
  have f1 : ∀ k, k < h.length → k ≠ b → (wr g h.length [AV.int .i64 n, .sl bb 0 1 l.length l.length])[k]? = h[k]? := fun k hk hn => (hwk k (by omega)).trans (p5 k hk hn)
  have f2 := p3.frame (hwk b (by omega))
  have f3 := cells_keep (hwk bb (by omega)) p11
  have f4 : h.length ≤ (wr g h.length [AV.int .i64 n, .sl bb 0 1 l.length l.length]).length := by simp [wr]; omega
  (try (simp (disch := first | omega | (simp <;> omega) | fail) only [push_cast, ↓reduceIte, Nat.reduceEqDiff, Nat.reduceAdd, Nat.reduceMul, Nat.reduceSub, Nat.reduceLT, Int.reduceToNat, p4, p6, hpm, hw]))
  all_goals (try exact ⟨n, l, bb, by omega, rfl, p9, by omega, f4, f1, f2, f3⟩)
  all_goals (try exact ⟨n, l, bb, by omega, rfl, p9, by omega, f1, f2, f3⟩)
theorem c_spec_l1Cur_anyBits (b : Nat) (c : Option (List UInt8)) (K : Nat) (h : H) (hc : CurI h b c K) (hK : K ≤ 10000000) :
    Call Tryz.prog 38 [.adr b 0] h (fun b' => b' = b) (fun x h' => ∃ (n : Int) (l : List Int) (bb : Nat), x = .agg [.int .i64 n, .sl bb 0 1 l.length l.length] ∧ l.length ≤ 300 ∧ h.length ≤ bb ∧ h.length ≤ h'.length ∧ (∀ k, k < h.length → k ≠ b → h'[k]? = h[k]?) ∧ CurI h' b c (K + 60) ∧ h'.cells bb = some (l.map (.int .i64))) :=
  (c_spec_l1Cur_anyBits_x b c K h hc hK).mono (fun _ _ ⟨n, l, bb, _, hx⟩ => ⟨n, l, bb, hx⟩) fun _ _ h => h

def spLs (s : Spa) : List Nat := spL (numW (lI s.high.words)) (numW (lI s.low.words)) s.width.toNat s.count.toNat s.high.size.toNat
def preSp (s : Spa) : Bool := ((decide (0 ≤ s.count) && decide (s.count ≤ 60)) && limOk s.limit) && (decide (s.width = wid s.count.toNat s.limit.toNat) && ((okBt s.low && okBt s.high) && decide (s.low.size = s.width * s.count)))
def midSp (s : Spa) : Bool := decide ((spLs s).length = s.count.toNat) && srt (natI (spLs s)) s.limit
def finSp (s : Spa) : Bool := sameB (lowB (spLs s) s.width.toNat) s.low && sameB (hiB (spLs s) s.limit.toNat s.width.toNat) s.high
def okSp (s : Spa) : Bool := preSp s && (midSp s && finSp s)
theorem preSp_of {s : Spa} (h : preSp s = true) : ∃ cnt lim n : Nat, s.count = (cnt : Int) ∧ s.limit = (lim : Int) ∧ s.width = ((wid cnt lim : Nat) : Int) ∧ s.high.size = (n : Int) ∧ 1 ≤ lim ∧ lim ≤ 100000 ∧ okBt s.low = true ∧ okBt s.high = true ∧ s.low.size = ((cnt * wid cnt lim : Nat) : Int) ∧
    SpO s (numW (lI s.low.words)) (lI s.low.words).length (numW (lI s.high.words)) (lI s.high.words).length cnt (wid cnt lim) n ∧ spLs s = spL (numW (lI s.high.words)) (numW (lI s.low.words)) (wid cnt lim) cnt n := by
  simp only [preSp, limOk, Bool.and_eq_true, decide_eq_true_eq] at h
  obtain ⟨⟨⟨c0, c1⟩, l0, l1⟩, hw, ⟨k1, k2⟩, hls⟩ := h
  obtain ⟨cnt, hc⟩ : ∃ k : Nat, s.count = (k : Int) := ⟨s.count.toNat, by omega⟩
  obtain ⟨lim, hl⟩ : ∃ k : Nat, s.limit = (k : Int) := ⟨s.limit.toNat, by omega⟩
  obtain ⟨a1, a2, a3, a4⟩ := okBt_num k1
  obtain ⟨b1, b2, b3, b4⟩ := okBt_num k2
  obtain ⟨n, hn⟩ : ∃ k : Nat, s.high.size = (k : Int) := ⟨s.high.size.toNat, by omega⟩
  have hw2 : s.width = ((wid cnt lim : Nat) : Int) := by rw [hw, hc, hl]; rfl
  have hcw : s.width * s.count = ((cnt * wid cnt lim : Nat) : Int) := by rw [hw2, hc, Nat.mul_comm]; simp
  have hw16 := wid_le (c := cnt) (l := lim) (by omega)
  refine ⟨cnt, lim, n, hc, hl, hw2, hn, by omega, by omega, k1, k2, by rw [hls, hcw], ⟨a1, b1, hc, hw2, hn, by rw [hls, hcw] at a4; omega, by omega, by omega, hw16, by omega, by omega, by omega⟩, ?_⟩
  unfold spLs
  rw [hc, hw2, hn]
  rfl
theorem or_add {a f w : Nat} (hf : f < 2 ^ w) : a * 2 ^ w ||| f = a * 2 ^ w + f := by
  have := Nat.shiftLeft_add_eq_or_of_lt hf a
  rw [Nat.shiftLeft_eq] at this
  exact this.symm
theorem spL_lt {hb lb w cnt : Nat} : ∀ p, ∀ x ∈ spL hb lb w cnt p, x < p * 2 ^ w + 2 ^ w
  | 0, x, hx => by simp [spL] at hx
  | p + 1, x, hx => by
    rw [spL] at hx
    have hp : (p + 1) * 2 ^ w = p * 2 ^ w + 2 ^ w := by rw [Nat.add_mul, Nat.one_mul]
    have hpos : 0 < 2 ^ w := Nat.two_pow_pos w
    rw [hp]
    split at hx
    · rcases List.mem_append.1 hx with hx | hx
      · have := spL_lt p x hx
        omega
      · simp at hx
        have h1 := fldN_lt (B := lb) (a := (spL hb lb w cnt p).length * w) (w := w)
        have h2 : (p - (spL hb lb w cnt p).length) * 2 ^ w ≤ p * 2 ^ w := Nat.mul_le_mul_right _ (by omega)
        omega
    · have := spL_lt p x hx
      omega

def decV (l : Str) : Nat := l.foldl (fun a c => 10 * a + (c.toNat - 48)) 0
theorem decV_dec : ∀ n : Nat, decV (Lib.decDigits n) = n := fun n => by
  induction n using Nat.strongRecOn with
  | _ n ih =>
    rw [dec_rec]
    by_cases hn : n < 10
    · rw [if_pos hn]
      simp [decV]
      omega
    · rw [if_neg hn]
      unfold decV at ih ⊢
      rw [List.foldl_append, ih (n / 10) (by omega)]
      simp
      omega

def digC (c : UInt8) : Bool := decide (48 ≤ (c.toNat : Int)) && decide ((c.toNat : Int) ≤ 57)
def rdOk (a : Str) : Bool := (decide (1 ≤ (a.length : Int)) && decide ((a.length : Int) ≤ 6)) && !(decide (((a.getD 0 0).toNat : Int) = 48) && decide (1 < (a.length : Int)))
/-- What is read. -/
def rdN (a : Str) : Int := if rdOk a && a.all digC then (decV a : Int) else -1
theorem digC_is {c : UInt8} : digC c = true ↔ 48 ≤ c.toNat ∧ c.toNat ≤ 57 := by
  simp only [digC, Bool.and_eq_true, decide_eq_true_eq]
  omega
theorem decV_app {b : Str} {c : UInt8} : decV (b ++ [c]) = 10 * decV b + (c.toNat - 48) := by
  unfold decV
  rw [List.foldl_append]
  rfl
theorem dec_back : ∀ (n : Nat) (a : Str), a.length = n + 1 → (∀ c ∈ a, 48 ≤ c.toNat ∧ c.toNat ≤ 57) → ¬ ((a.getD 0 0).toNat = 48 ∧ 1 < a.length) → Lib.decDigits (decV a) = a
  | 0, a, hl, hd, _ => by
    obtain ⟨c, rfl⟩ : ∃ c, a = [c] := List.length_eq_one_iff.1 hl
    have h := hd c (by simp)
    have hv : decV [c] = c.toNat - 48 := by simp [decV]
    rw [hv, dec_rec, if_pos (by omega)]
    congr 1
    apply UInt8.toNat_inj.1
    simp
    omega
  | n + 1, a, hl, hd, hh => by
    have hne : a ≠ [] := fun h => by rw [h] at hl; simp at hl
    obtain ⟨b, c, rfl⟩ : ∃ b c, a = b ++ [c] := ⟨a.dropLast, a.getLast hne, (List.dropLast_concat_getLast hne).symm⟩
    have hbl : b.length = n + 1 := by simpa using hl
    have h0 : (b ++ [c]).getD 0 0 = b.getD 0 0 := by
      simp only [List.getD_eq_getElem?_getD]
      rw [List.getElem?_append_left (by omega)]
    have hb0 : (b.getD 0 0).toNat ≠ 48 := fun h => hh ⟨by rw [h0]; exact h, by simp; omega⟩
    have ih := dec_back n b hbl (fun x hx => hd x (by simp [hx])) (fun h => hb0 h.1)
    have hc := hd c (by simp)
    have hpos : 1 ≤ decV b := by
      rcases Nat.eq_zero_or_pos (decV b) with h | h
      · rw [h, dec_rec, if_pos (by omega)] at ih
        rw [← ih] at hb0
        simp at hb0
      · exact h
    rw [decV_app, dec_rec, if_neg (by omega), show (10 * decV b + (c.toNat - 48)) / 10 = decV b by omega, ih]
    congr 2
    apply UInt8.toNat_inj.1
    simp
    omega
theorem dec_lenle : ∀ (k n : Nat), n < 10 ^ (k + 1) → (Lib.decDigits n).length ≤ k + 1
  | 0, n, h => by
    rw [dec_rec, if_pos (by simpa using h)]
    simp
  | k + 1, n, h => by
    rw [dec_rec]
    split
    · simp
    · have := dec_lenle k (n / 10) (by rw [Nat.pow_succ] at h; omega)
      simp
      omega
theorem dec_ne {n : Nat} : Lib.decDigits n ≠ [] := by
  rw [dec_rec]
  split <;> simp
theorem dec_head {n : Nat} (h : 1 ≤ n) : ((Lib.decDigits n).getD 0 0).toNat ≠ 48 := by
  induction n using Nat.strongRecOn with
  | _ n ih =>
    rw [dec_rec]
    split
    · simp
      omega
    · have hl := List.length_pos_iff.2 (dec_ne (n := n / 10))
      have := ih (n / 10) (by omega) (by omega)
      simp only [List.getD_eq_getElem?_getD] at this ⊢
      rw [List.getElem?_append_left hl]
      exact this
theorem rd_dec {n : Nat} (h : n < 1000000) : rdN (Lib.decDigits n) = n := by
  have h1 := dec_lenle 5 n (by simpa using h)
  have h2 := List.length_pos_iff.2 (dec_ne (n := n))
  have hd : (Lib.decDigits n).all digC = true := List.all_eq_true.2 fun c hc => digC_is.2 (dec_plain n c hc)
  have hz : rdOk (Lib.decDigits n) = true := by
    unfold rdOk
    rcases Nat.eq_zero_or_pos n with h0 | h0
    · subst h0
      rw [show Lib.decDigits 0 = [48] by rw [dec_rec]; rfl]
      decide
    · have := dec_head h0
      simp only [Bool.and_eq_true, decide_eq_true_eq, Bool.not_eq_true', Bool.and_eq_false_iff, decide_eq_false_iff_not]
      omega
  unfold rdN
  rw [hz, hd, decV_dec]
  rfl
theorem rd_back {a : Str} {r : Int} (h : rdN a = r) (h0 : 0 ≤ r) : ∃ n : Nat, r = n ∧ n < 1000000 ∧ a = Lib.decDigits n := by
  unfold rdN at h
  cases hz : (rdOk a && a.all digC) with
  | false =>
    rw [hz] at h
    simp at h
    omega
  | true =>
    rw [hz] at h
    simp only [Bool.and_eq_true] at hz
    obtain ⟨h1, h2⟩ := hz
    simp only [rdOk, Bool.and_eq_true, decide_eq_true_eq, Bool.not_eq_true', Bool.and_eq_false_iff, decide_eq_false_iff_not] at h1
    have hd : ∀ c ∈ a, 48 ≤ c.toNat ∧ c.toNat ≤ 57 := fun c hc => digC_is.1 (List.all_eq_true.1 h2 c hc)
    have hb := dec_back (a.length - 1) a (by omega) hd (by omega)
    refine ⟨decV a, by rw [← h]; rfl, ?_, hb.symm⟩
    rcases Nat.lt_or_ge (decV a) 1000000 with hlt | hge
    · exact hlt
    · exfalso
      have hk : ∀ k n : Nat, 10 ^ k ≤ n → k + 1 ≤ (Lib.decDigits n).length := by
        intro k
        induction k with
        | zero => intro n _; exact List.length_pos_iff.2 dec_ne
        | succ k ih =>
          intro n hn
          rw [dec_rec, if_neg (by rw [Nat.pow_succ] at hn; have := Nat.pow_pos (n := k) (show 0 < 10 by decide); omega)]
          have := ih (n / 10) (by rw [Nat.pow_succ] at hn; omega)
          simp
          omega
      have := hk 6 (decV a) (by simpa using hge)
      rw [hb] at this
      omega
theorem decFrom_all : ∀ (l : Str) (acc : Nat), (∀ c ∈ l, 48 ≤ c.toNat ∧ c.toNat ≤ 57) → Lib.decFrom acc l = some (l.foldl (fun a c => 10 * a + (c.toNat - 48)) acc)
  | [], acc, _ => rfl
  | c :: l, acc, h => by
    have hc := h c (by simp)
    rw [Lib.decFrom, Lib.digitVal, if_pos hc, List.foldl_cons]
    simp only
    rw [decFrom_all l _ fun x hx => h x (List.mem_cons_of_mem _ hx), Nat.mul_comm]
theorem atoi_dec {n : Nat} (h : n < 1000000) : Lib.atoiAll (Lib.decDigits n) = .ok (n : Int) := by
  have h1 := dec_lenle 5 n (by simpa using h)
  rw [Lib.atoiAll_short _ (by omega)]
  have hv := decV_dec n
  have hp := dec_plain n
  have hne := dec_ne (n := n)
  cases hl : Lib.decDigits n with
  | nil => exact absurd hl hne
  | cons c r =>
    rw [hl] at hv hp
    have hc := hp c (by simp)
    have e1 : (c == 45) = false := by
      rw [beq_eq_false_iff_ne]
      rintro rfl
      simp at hc
    have e2 : (c == 43) = false := by
      rw [beq_eq_false_iff_ne]
      rintro rfl
      simp at hc
    have hd : Lib.decNat (c :: r) = some n := by
      unfold Lib.decNat
      rw [decFrom_all _ _ hp]
      unfold decV at hv
      rw [hv]
      rfl
    rw [Lib.atoi, e1, e2, hd]
    rfl

/-- A number as it is read: told to be one, it is spelt so; and what is spelt so is told to be one. -/
def NumR (a : Str) (x : AV) : Prop := ∃ (n : Int) (b : Bool), x = .tup [.int .i64 n, .bool b] ∧ (b = true → 0 ≤ n ∧ a = Lib.decDigits n.toNat) ∧ (∀ m : Nat, m < 1000000 → a = Lib.decDigits m → b = true ∧ n = m) ∧ -9223372036854775808 ≤ n ∧ n ≤ 9223372036854775807

/-- The pieces so far. -/
def SpI (s : Str) (i : Nat) (L : List Str) (fr : Nat) : Prop := fr ≤ i ∧ splitL 32 s = L ++ splitL 32 (s.drop fr) ∧ ∀ x ∈ (s.drop fr).take (i - fr), x ≠ 32
theorem SpI.zero {s : Str} : SpI s 0 [] 0 := ⟨Nat.le_refl _, by simp, by simp⟩
theorem SpI.hit {s : Str} {i fr : Nat} {L : List Str} (hs : SpI s i L fr) (hi : i < s.length) (hc : s.getD i 0 = 32) : SpI s (i + 1) (L ++ [(s.drop fr).take (i - fr)]) (i + 1) := by
  obtain ⟨h1, h2, h3⟩ := hs
  refine ⟨Nat.le_refl _, ?_, by simp⟩
  have hd : s.drop fr = (s.drop fr).take (i - fr) ++ 32 :: s.drop (i + 1) := by
    conv => lhs; rw [← List.take_append_drop (i - fr) (s.drop fr)]
    congr 1
    rw [List.drop_drop, show fr + (i - fr) = i by omega, List.drop_eq_getElem_cons hi]
    congr 1
    simpa [hi] using hc
  rw [h2]
  conv => lhs; rw [hd, splitL_app 32 _ _ h3]
  simp
theorem SpI.fin {s : Str} {fr : Nat} {L : List Str} (hs : SpI s s.length L fr) : splitL 32 s = L ++ [s.drop fr] := by
  obtain ⟨h1, h2, h3⟩ := hs
  rw [h2]
  congr 1
  refine splitL_no 32 _ fun x hx => h3 x ?_
  rwa [List.take_of_length_le (by simp)]

def zSp : Spa := ⟨0, 0, 0, ⟨0, none⟩, ⟨0, none⟩⟩
/-- What loads of a list of numbers, the limit first. -/
def lsN (ns : List Int) : Option Spa := match ns with
  | lim :: l => if srt l lim then some (spV (l.map Int.toNat) lim.toNat) else none
  | [] => none
def spW : Str := [115, 112, 97, 114, 115, 101]
def lsW (s : Str) : Option (List Str) := if openOk s (beforeT s) = true ∧ (beforeT s).take 7 = [115, 112, 97, 114, 115, 101, 32] then some (splitL 32 ((beforeT s).drop 7)) else none
def lsP (s : Str) : Option Spa := match lsW s with
  | some ws => lsN (ws.map rdN)
  | none => none
def lsSp (s : Str) : Spa := (lsP s).getD zSp
def lsq (s : Str) : Bool := (lsP s).isSome
def lsV (s : Str) : AV := .tup [eSp (lsSp s), .bool (lsq s)]
theorem ls_none {s : Str} (h : lsP s = none) : lsV s = .tup [eSp zSp, .bool false] := by
  unfold lsV lsSp lsq
  rw [h]
  rfl
theorem ls_some {s : Str} {p : Spa} (h : lsP s = some p) : lsV s = .tup [eSp p, .bool true] := by
  unfold lsV lsSp lsq
  rw [h]
  rfl
theorem ls_closed {s : Str} (h : lsW s = none) : lsP s = none := by
  unfold lsP
  rw [h]
theorem srt_nat {l : List Int} {lim : Int} (h : srt l lim = true) : natI (l.map Int.toNat) = l ∧ (∀ i, i < (l.map Int.toNat).length → (l.map Int.toNat).getD i 0 < lim.toNat) ∧ (l.map Int.toNat).length ≤ 60 ∧ 1 ≤ lim.toNat ∧ lim.toNat ≤ 100000 ∧ ((lim.toNat : Nat) : Int) = lim := by
  obtain ⟨s1, s2, s3, s4⟩ := srt_in h
  refine ⟨?_, fun i hi => ?_, by simpa using s1, by omega, by omega, by omega⟩
  · unfold natI
    rw [List.map_map]
    refine (List.map_congr_left fun x hx => ?_).trans (List.map_id l)
    obtain ⟨j, hj, rfl⟩ := List.mem_iff_getElem.1 hx
    have := (s4 j hj).1
    have h5 : l.getD j 0 = l[j] := by simp [hj]
    rw [h5] at this
    simp only [Function.comp, id]
    omega
  · rw [List.length_map] at hi
    have h4 := s4 i hi
    have h5 : (l.map Int.toNat).getD i 0 = (l.getD i 0).toNat := by simp [hi]
    rw [h5]
    omega
/-- What is no number, or too great, spoils the list on both sides. -/
theorem lsN_bad {ns : List Int} {i : Nat} (hi : i < ns.length) (hb : ns.getD i 0 < 0 ∨ 1000000 ≤ ns.getD i 0) : lsN ns = none := by
  cases ns with
  | nil => rfl
  | cons lim l =>
    unfold lsN
    simp only
    refine if_neg fun h => ?_
    obtain ⟨s1, s2, s3, s4⟩ := srt_in h
    cases i with
    | zero =>
      simp at hb
      omega
    | succ i =>
      have := s4 i (by simpa using hi)
      simp at hb this
      omega
theorem lsN_same {ns ms : List Int} (hl : ns.length = ms.length) (h : ∀ i, i < ns.length → ns.getD i 0 = ms.getD i 0 ∨ (1000000 ≤ ns.getD i 0 ∧ ms.getD i 0 < 0)) : lsN ns = lsN ms := by
  by_cases ha : ∀ i, i < ns.length → ns.getD i 0 = ms.getD i 0
  · have : ns = ms := by
      refine List.ext_getElem hl fun i h1 h2 => ?_
      have := ha i h1
      simpa [h1, h2] using this
    rw [this]
  · obtain ⟨i, hi, hne⟩ : ∃ i, i < ns.length ∧ ns.getD i 0 ≠ ms.getD i 0 := Classical.byContradiction fun h5 => ha fun i hi => Classical.byContradiction fun h7 => h5 ⟨i, hi, h7⟩
    rcases h i hi with h5 | ⟨h5, h6⟩
    · exact absurd h5 hne
    · rw [lsN_bad hi (.inr h5), lsN_bad (ns := ms) (i := i) (by omega) (.inl h6)]
/-- What the other program reads. -/
theorem ls_split {s : Str} : (∃ ws, openOk s (beforeT s) = true ∧ splitL 32 (beforeT s) = spW :: ws ∧ ws ≠ [] ∧ lsW s = some ws ∧ ws = splitL 32 ((beforeT s).drop 7)) ∨ (lsW s = none ∧ ¬ (openOk s (beforeT s) = true ∧ (splitL 32 (beforeT s)).getD 0 [] = spW ∧ (splitL 32 (beforeT s)).drop 1 ≠ [])) := by
  cases hk : openOk s (beforeT s)
  · refine .inr ⟨by unfold lsW; rw [hk]; rfl, fun h => by cases h.1⟩
  rcases splitL_hd 32 (beforeT s) with ⟨p, t, h1, h2, h3⟩ | ⟨h1, h2⟩
  · by_cases hp : p = spW
    · subst hp
      have hd : (beforeT s).drop 7 = t := by rw [h1]; rfl
      have ht : (beforeT s).take 7 = [115, 112, 97, 114, 115, 101, 32] := by rw [h1]; rfl
      refine .inl ⟨splitL 32 t, rfl, h3, splitL_ne 32 t, ?_, by rw [hd]⟩
      unfold lsW
      rw [hk, hd]
      simp [ht]
    · refine .inr ⟨?_, fun h => hp ?_⟩
      · unfold lsW
        refine if_neg fun h5 => hp ?_
        obtain ⟨_, h6⟩ := h5
        rw [h1] at h6
        match p, h2, h6 with
        | [], _, h6 => simp at h6
        | [a], h2, h6 => simp at h6
        | [a, b], h2, h6 => simp at h6
        | [a, b, c], h2, h6 => simp at h6
        | [a, b, c, d], h2, h6 => simp at h6
        | [a, b, c, d, e], h2, h6 => simp at h6
        | [a, b, c, d, e, f], h2, h6 =>
          simp at h6
          simp [spW, h6]
        | a :: b :: c :: d :: e :: f :: g :: r, h2, h6 =>
          simp at h6
          exact absurd h6.2.2.2.2.2.2 (h2 g (by simp))
      · have := h.2.1
        rw [h3] at this
        simpa using this
  · refine .inr ⟨?_, fun h => ?_⟩
    · unfold lsW
      refine if_neg fun h5 => ?_
      have : (32 : UInt8) ∈ (beforeT s).take 7 := by rw [h5.2]; simp
      exact h1 32 (List.mem_of_mem_take this) rfl
    · have := h.2.2
      rw [h2] at this
      simp at this
/-- A list of numbers that grows. -/
def LzI (n0 : Nat) (h' : H) (v : AV) (L : List Int) : Prop := n0 ≤ h'.length ∧ ∃ B, S1 h' 1 v L.length (L.map (.int .i64)) B ∧ ∀ k ∈ B, n0 ≤ k
theorem LzI.app {n0 : Nat} {h' : H} {v : AV} {L : List Int} {x : Int} {pm : Nat → Prop} {Q : AV → H → Prop} (hs : LzI n0 h' v L) (hpm : ∀ c, n0 ≤ c → pm c) (hL : L.length ≤ 1000000)
    (hQ : ∀ v' h'', LzI n0 h'' v' (L ++ [x]) → (∀ c, c < n0 → h''[c]? = h'[c]?) → h'.length ≤ h''.length → Q v' h'') : apA pm (h' ++ [some (.cells [.int .i64 x])]) Q 1 8 (some ([.int .i64 x], 1)) v := by
  obtain ⟨hn, B, hs, hB⟩ := hs
  have hs2 := hs.frame (h' := h' ++ [some (.cells [.int .i64 x])]) fun c hc => List.getElem?_append_left (hs.lt c hc)
  refine hs2.app (fun c hc => hpm c (hB c hc)) rfl (by decide) (by omega) fun v' h'' B' q1 q2 q3 q4 => ?_
  simp only [List.length_append, List.length_cons, List.length_nil] at q2 q4
  refine hQ v' h'' ⟨by omega, B', by simpa using q1, fun k hk => ?_⟩ (fun c hc => ?_) (by omega)
  · rcases q4 k hk with h5 | h5
    · exact hB k h5
    · omega
  · rw [q3 c (by simp; omega) (fun hb => by have := hB c hb; omega)]
    exact List.getElem?_append_left (by omega)
theorem LzI.sl {n0 : Nat} {h' : H} {v : AV} {L : List Int} (hs : LzI n0 h' v L) (hne : L ≠ []) : ∃ b, v = .sl b 0 1 L.length L.length ∧ n0 ≤ b ∧ H.cells h' b = some (L.map (.int .i64)) := by
  obtain ⟨_, B, hs, hB⟩ := hs
  rcases hs.2 with ⟨rfl, h0, _⟩ | ⟨b, rfl, hb, hcb⟩
  · exact absurd (List.length_eq_zero_iff.1 h0) hne
  · exact ⟨b, rfl, hB b (by rw [hb]; simp), hcb⟩
theorem vw_tail {g : H} {b n0 : Nat} {x : Int} {l : List Int} (hc : H.cells g b = some ((x :: l).map (.int .i64))) (hb : n0 ≤ b) : Vw g n0 (.sl b 1 1 l.length l.length) (eI (some l)) := by
  refine .sl (cs := (x :: l).map (.int .i64)) (ts := l.map (.int .i64)) hb hc (by simp; omega) (by simp) (one_map fun _ => rfl) fun i y t hy ht => ?_
  rw [List.map_cons, Nat.add_comm, List.getElem?_cons_succ, ht] at hy
  injection hy with hy
  subst hy
  obtain ⟨m, _, rfl⟩ := List.mem_map.1 (List.mem_of_getElem? ht)
  exact .free free_int

theorem lastOk_ofS {B n m : Nat} (hm : (((n : Int) + 15) / 16) = (m : Int)) (hB : B < 2 ^ n) : lastOk n (wordsN B m) = true := by
  unfold lastOk
  rw [Bool.or_eq_true, decide_eq_true_eq, decide_eq_true_eq]
  by_cases hz : (n : Int) % 16 = 0
  · exact .inl hz
  · right
    have hm1 : 1 ≤ m := by omega
    rw [wordsN_len, wordsN_get (by omega)]
    have hr : min ((n : Int) % 16).toNat IntKind.i64.bits = n % 16 := by
      simp [IntKind.bits]
      omega
    rw [hr]
    have hlt : wordN B (m - 1) < 2 ^ (n % 16) := by
      unfold wordN
      refine Nat.lt_of_le_of_lt (Nat.mod_le _ _) ?_
      rw [Nat.shiftRight_eq_div_pow, Nat.div_lt_iff_lt_mul (Nat.two_pow_pos _), ← Nat.pow_add]
      rwa [show n % 16 + 16 * (m - 1) = n by omega]
    have h2 : ((2 : Int) ^ (n % 16)) = ((2 ^ (n % 16) : Nat) : Int) := by simp
    rw [h2, ← Int.ofNat_fdiv, Nat.div_eq_of_lt hlt]
    rfl
theorem okBt_ofS {B n m : Nat} (hm : (((n : Int) + 15) / 16) = (m : Int)) (hB : B < 2 ^ n) (hn : n ≤ 4096) : okBt ⟨n, some (wordsN B m)⟩ = true := by
  have hl : lI (some (wordsN B m)) = wordsN B m := rfl
  have hw : okWords (wordsN B m) = true := by
    unfold okWords
    rw [List.all_eq_true]
    intro w hw
    have := wordsN_all w hw
    simp [this.1, this.2]
  simp only [okBt, hl, wordsN_len, hw, lastOk_ofS hm hB, Bool.and_eq_true, decide_eq_true_eq, and_true] <;> omega
theorem okBt_hiS {L : List Nat} {lim : Nat} (hL : L.length ≤ 60) (hl : lim ≤ 100000) : okBt (hiB L lim (wid L.length lim)) = true := by
  have h1 := hiS_le hL hl
  refine okBt_ofS (n := hiS L.length lim (wid L.length lim)) (by omega) (Nat.lt_pow_two_of_testBit _ fun j hj => ?_) (by omega)
  rw [mkN_bit]
  simp
  omega
theorem ow_boolsS {h : H} {x : AV} {N : List Bool} {G : Nat → Prop} (ho : Ow h [x] [eO (some N)] G) : ∃ b, x = .sl b 0 1 N.length N.length ∧ G b ∧ h.cells b = some (N.map .bool) := by
  obtain ⟨b, cs, F, rfl, hc, hl, hb, hF, hin, _⟩ := Ow.open_ (show Ow h [x] [.ro 1 _ _] G from ho)
  exact ⟨b, rfl, hb, by rw [hc, ow_atoms_eq2 hin fun t ht => by obtain ⟨q, _, rfl⟩ := List.mem_map.1 ht; rfl]⟩
def sbV (l : List Bool) : Bt := ⟨(l.length : Int), some (wordsN (bitN l l.length) ((l.length + 15) / 16))⟩
theorem biSome_oS (o : Option (List Bool)) (hl : (lO o).length ≤ 5000) : FnO Tryz.prog 37 [eO o] (· = eB (sbV (lO o))) := fun g => (c_spec_biSome o (((lO o).length + 15) / 16) (by omega) hl g).mono (fun x g1 hx => by
  obtain ⟨bb, rfl, q1, q2, q3, q4⟩ := hx
  exact ⟨_, ow_B (G := fun c => g.length ≤ c) q1 q4 (by rw [wordsN_len]), rfl⟩) (fun _ _ h => h)
def zS7 : List AV := [.int .i64 0, .int .i64 0, .int .i64 0, .int .i64 0, .nils, .int .i64 0, .nils]
theorem c_spec_l1Cur_anyBitsF (b : Nat) (c : Option (List UInt8)) (K : Nat) (h : H) (hcu : CurI h b c K) (hK : K ≤ 10000000) :
    Call Tryz.prog 38 [.adr b 0] h (fun b' => b' = b) (fun x g => (∃ t : Bt, x = eB t) ∧ CurF h g b c (K + 60)) :=
  Call.cur hcu.lt ((c_spec_l1Cur_anyBits b c K h hcu hK).mono (fun x g hx => by
    obtain ⟨n, l, bb, rfl, h1, h2, h3, h4, h5, h6⟩ := hx
    refine ⟨eB ⟨n, some l⟩, .agg rfl fun j y t hy ht => ?_, ⟨_, rfl⟩, h3, h4, h5⟩
    rcases j with _ | _ | j
    · simp [cB] at hy ht
      subst hy ht
      exact .free free_int
    · simp [cB] at hy ht
      subst hy ht
      exact vw_all h2 h6 (by simp) (one_map fun _ => rfl) (free_map_ fun _ => free_int)
    · simp at hy) (fun _ _ h => h))
set_option maxHeartbeats 4000000 in
theorem c_spec_l1Cur_sparse (b : Nat) (c : Option (List UInt8)) (K : Nat) (h : H) (hcu : CurI h b c K) (hK : K ≤ 100000) :
    Call Tryz.prog 15 [.adr b 0] h (fun b' => b' = b) (fun x g => (∃ s : Spa, x = eSp s ∧ -10 ≤ s.limit ∧ s.limit ≤ 200000) ∧ CurF h g b c (K + 500)) := by
  refine Call.cur hcu.lt ?_
  refine enter (by kernel_rfl) e15 (by kernel_rfl) rfl fun hok => ?_
  simp only [r15, initEnv_1]
  have hbl := hcu.lt
  generalize hIF : RCode.seq (.reg (⟨some 13, _, _⟩ :: _)) _ = IFC
  have hF0 : CurF h (h ++ [some (.cells zS7)]) b c K := (CurF.refl hcu).more
  (try (simp (disch := first | omega | (simp <;> omega) | fail) only [push_cast, ↓reduceIte, Nat.reduceEqDiff, Nat.reduceAdd, Nat.reduceMul, Nat.reduceSub, Nat.reduceLT, Int.reduceToNat]))
  refine (c_spec_l1Cur_limit b c K (h ++ [some (.cells zS7)]) hF0.2.2 (by omega)).mono (fun x g1 hx => ?_) (fun b' _ hb' => Or.inl hb')
  obtain ⟨⟨lim, rfl, lm0, lm1⟩, hF1⟩ := hx
  (try (simp (disch := first | omega | (simp <;> omega) | fail) only [push_cast, ↓reduceIte, Nat.reduceEqDiff, Nat.reduceAdd, Nat.reduceMul, Nat.reduceSub, Nat.reduceLT, Int.reduceToNat]))
  refine (c_spec_l1Cur_sorted b c _ g1 lim hF1.2.2 (by omega) lm0 lm1).mono (fun x g2 hx => ?_) (fun b' _ hb' => Or.inl hb')
  obtain ⟨⟨o, rfl, hol⟩, hF2⟩ := hx
  have hFb := hF1.trans hF2
  have hFh := hF0.trans hFb
  have hz2 : g2.cells h.length = some zS7 := hFb.cells (k := h.length) (by rw [cells_h0]; rfl) (by omega)
  have hlg := hFb.1
  simp only [List.length_append, List.length_cons, List.length_nil] at hlg
  (try (simp (disch := first | omega | (simp <;> omega) | fail) only [push_cast, ↓reduceIte, Nat.reduceEqDiff, Nat.reduceAdd, Nat.reduceMul, Nat.reduceSub, Nat.reduceLT, Int.reduceToNat]))
  refine T_cut (fun e g => ∃ (lm : Nat) (o2 : Option (List Int)) (L : List Nat), Pins e [(0, .adr b 0), (2, .adr h.length 0), (3, .int .i64 lm), (4, eI o2)] ∧ (g2 = g ∧ lI o2 = natI L ∧ L.length ≤ 60 ∧ 1 ≤ lm ∧ lm ≤ 100000 ∧ ∀ i, i < L.length → L.getD i 0 < lm)) ?_ ?_
  · rw [← hIF]
    clear hIF
    (try (simp (disch := first | omega | (simp <;> omega) | fail) only [push_cast, ↓reduceIte, Nat.reduceEqDiff, Nat.reduceAdd, Nat.reduceMul, Nat.reduceSub, Nat.reduceLT, Int.reduceToNat]))
    refine (c_spec_spSorted o lim (by omega) (by omega)).call ?_
    cases hs : srt (lI o) lim
    · (try (simp (disch := first | omega | (simp <;> omega) | fail) only [push_cast, ↓reduceIte, Nat.reduceEqDiff, Nat.reduceAdd, Nat.reduceMul, Nat.reduceSub, Nat.reduceLT, Int.reduceToNat]))
      all_goals (try exact ⟨20, none, [], ⟨rfl, rfl⟩, rfl, by simp, by omega, by omega, by simp⟩)
      done
    · obtain ⟨n1, n2, n3, n4, n5, n6⟩ := srt_nat hs
      (try (simp (disch := first | omega | (simp <;> omega) | fail) only [push_cast, ↓reduceIte, Nat.reduceEqDiff, Nat.reduceAdd, Nat.reduceMul, Nat.reduceSub, Nat.reduceLT, Int.reduceToNat]))
      all_goals (try exact ⟨lim.toNat, o, (lI o).map Int.toNat, ⟨by rw [n6], rfl⟩, n1.symm, n3, n4, n5, n2⟩)
      done
  clear hIF
  rintro e g ⟨lm, o2, L, hp, rfl, ho2, hL60, hl1, hl2, hlt⟩
  refine T_pins hp fun e => ?_
  have hSp := c_spec_spOf L lm o2 ho2 hL60 hl1 hl2 hlt
  have hokH := okBt_hiS (L := L) (lim := lm) hL60 hl2
  have hbL : (btL (hiB L lm (wid L.length lm))).length = hiS L.length lm (wid L.length lm) := by simp [btL, hiB]
  have hiSle := hiS_le hL60 hl2
  have hiS1 : 1 ≤ hiS L.length lm (wid L.length lm) := Nat.le_add_left 1 _
  have hw16 := wid_le (c := L.length) hl2
  have espv : spV L lm = ⟨L.length, lm, wid L.length lm, lowB L (wid L.length lm), hiB L lm (wid L.length lm)⟩ := rfl
  rw [espv] at hSp
  clear espv
  generalize wid L.length lm = wd at *
  generalize lowB L wd = lo at *
  generalize hiB L lm wd = hi at *
  obtain ⟨ls, lw⟩ := lo
  have hbl2 := c_spec_biList_o hi hokH
  generalize btL hi = BL at *
  obtain ⟨hs, hw⟩ := hi
  have eesp : eSp ⟨L.length, lm, wd, ⟨ls, lw⟩, ⟨hs, hw⟩⟩ = .agg [.int .i64 L.length, .int .i64 lm, .int .i64 wd, .int .i64 ls, eI lw, .int .i64 hs, eI hw] := rfl
  rw [eesp] at hSp
  clear eesp
  (try (simp (disch := first | omega | (simp <;> omega) | fail) only [push_cast, ↓reduceIte, Nat.reduceEqDiff, Nat.reduceAdd, Nat.reduceMul, Nat.reduceSub, Nat.reduceLT, Int.reduceToNat]))
  refine hSp.call ?_
  (try (simp (disch := first | omega | (simp <;> omega) | fail) only [push_cast, ↓reduceIte, Nat.reduceEqDiff, Nat.reduceAdd, Nat.reduceMul, Nat.reduceSub, Nat.reduceLT, Int.reduceToNat]))
  obtain ⟨G, hG⟩ : ∃ G : H, G = g2 ++ [some (.cells [.int .i64 L.length, .int .i64 lm, .int .i64 wd, .int .i64 ls, eI lw, .int .i64 hs, eI hw])] := ⟨_, rfl⟩
  have hFG : CurF h G b c (K + 5 + 300) := by rw [hG]; exact hFh.more
  have hzG : G.cells h.length = some zS7 := by rw [hG]; exact cells_app hz2
  have h5G : G.cells g2.length = some [.int .i64 L.length, .int .i64 lm, .int .i64 wd, .int .i64 ls, eI lw, .int .i64 hs, eI hw] := by rw [hG, cells_h0]; rfl
  rw [← hG]
  clear hG
  obtain ⟨b5, hb5⟩ : ∃ b5, b5 = g2.length := ⟨_, rfl⟩
  rw [← hb5] at h5G ⊢
  have hb5h : h.length + 1 ≤ b5 := by omega
  refine (c_spec_l1Cur_pick b c _ G 14 hFG.2.2 (by omega) (by omega) (by omega)).mono (fun x g3 hx => ?_) (fun b' _ hb' => Or.inl hb')
  obtain ⟨⟨k, rfl, k0, k1⟩, hs3⟩ := hx
  have hF3 := hFG.trans hs3.f
  have hz3 : g3.cells h.length = some zS7 := hs3.f.cells hzG (by omega)
  have h53 := hs3.f.cells h5G (by omega)
  clear hFG hzG h5G hs3 hF0 hF1 hF2 hFb hFh hz2
  have hpm0 : (h.length ≤ h.length) = True := by simp
  have hpm5 : (h.length ≤ b5) = True := eq_true (by omega)
  /- What is left of a call that has put new fields into the box. -/
  have fin : ∀ (g : H) (K' : Nat) (s : Spa), CurF h g b c K' → K' ≤ K + 500 → -10 ≤ s.limit → s.limit ≤ 200000 → h.length < g.length → ∃ t, Vw (wr g h.length (cSp s)) h.length (eSp s) t ∧ (∃ s : Spa, t = eSp s ∧ -10 ≤ s.limit ∧ s.limit ≤ 200000) ∧ CurF h (wr g h.length (cSp s)) b c (K + 500) := fun g K' s hF hK' h1 h2 hl => by
    have hwk : ∀ c, c ≠ h.length → (wr g h.length (cSp s))[c]? = g[c]? := fun c hc => by
      unfold wr
      rw [List.getElem?_set_ne (Ne.symm hc)]
    exact ⟨_, .free free_eSp, ⟨s, rfl, h1, h2⟩, by simpa [wr] using hF.1, fun q hq hn => (hwk q (by omega)).trans (hF.2.1 q hq hn), (hF.2.2.mono (by omega)).frame (hwk b (by omega))⟩
  have wrb : ∀ (g : H) (K' : Nat) (cs : List AV), CurF h g b c K' → g.cells h.length = some zS7 → b5 < g.length → CurF h (wr g b5 cs) b c K' ∧ H.cells (wr g b5 cs) h.length = some zS7 ∧ H.cells (wr g b5 cs) b5 = some cs ∧ h.length < (wr g b5 cs).length := fun g K' cs hF hz hl => by
    have hwk : ∀ c, c ≠ b5 → (wr g b5 cs)[c]? = g[c]? := fun c hc => by
      unfold wr
      rw [List.getElem?_set_ne (Ne.symm hc)]
    have h2 := cells_lt hz
    exact ⟨⟨by simpa [wr] using hF.1, fun q hq hn => (hwk q (by omega)).trans (hF.2.1 q hq hn), hF.2.2.frame (hwk b (by omega))⟩, cells_keep (hwk _ (by omega)) hz, cells_wr2 hl, by simpa [wr] using h2⟩
  have hl53 := cells_lt h53
  by_cases z0 : k = 0
  · (try (simp (disch := first | omega | (simp <;> omega) | fail) only [push_cast, ↓reduceIte, Nat.reduceEqDiff, Nat.reduceAdd, Nat.reduceMul, Nat.reduceSub, Nat.reduceLT, Int.reduceToNat, z0, h53, reads, List.mem_cons, List.mem_append, List.not_mem_nil, nat_ff, or_self, or_false, false_or, not_false_eq_true]))
    repeat' (with_reducible refine And.intro ?_ ?_)
    all_goals
      refine (c_spec_l1Cur_pick b c _ g3 3 hF3.2.2 (by omega) (by omega) (by omega)).mono (fun x g4 hx => ?_) (fun b' _ hb' => Or.inl hb')
      obtain ⟨⟨q, rfl, q0, q1⟩, hs4⟩ := hx
      have hF4 := hF3.trans hs4.f
      have hz4 := hs4.f.cells hz3 (by omega)
      have h54 := hs4.f.cells h53 (by omega)
      have hq : ((wd : Int) : Int) + (q - 1) = (wd : Int) + (q - 1) := rfl
      obtain ⟨w1, w2, w3, w4⟩ := wrb g4 _ [.int .i64 L.length, .int .i64 lm, .int .i64 ((wd : Int) + (q - 1)), .int .i64 ls, eI lw, .int .i64 hs, eI hw] hF4 hz4 (cells_lt h54)
      have hf := fin _ _ ⟨L.length, lm, (wd : Int) + (q - 1), ⟨ls, lw⟩, ⟨hs, hw⟩⟩ w1 (by omega) (by show (-10 : Int) ≤ (lm : Int); omega) (by show ((lm : Int) : Int) ≤ 200000; omega) w4
      have w9 := fun cs => cells_wr2 w4 (cs := cs)
      simp only [zS7] at w2
      (try (simp (disch := first | omega | (simp <;> omega) | fail) only [push_cast, ↓reduceIte, Nat.reduceEqDiff, Nat.reduceAdd, Nat.reduceMul, Nat.reduceSub, Nat.reduceLT, Int.reduceToNat, h54, hpm5, hpm0, w2, w3, w9, reads, List.mem_cons, List.mem_append, List.not_mem_nil, nat_ff, or_self, or_false, false_or, not_false_eq_true]))
      all_goals (try exact hf)
      done
  by_cases z1 : k = 1
  · (try (simp (disch := first | omega | (simp <;> omega) | fail) only [push_cast, ↓reduceIte, Nat.reduceEqDiff, Nat.reduceAdd, Nat.reduceMul, Nat.reduceSub, Nat.reduceLT, Int.reduceToNat, z0, z1, h53, reads, List.mem_cons, List.mem_append, List.not_mem_nil, nat_ff, or_self, or_false, false_or, not_false_eq_true]))
    repeat' (with_reducible refine And.intro ?_ ?_)
    all_goals
      refine (c_spec_l1Cur_pick b c _ g3 3 hF3.2.2 (by omega) (by omega) (by omega)).mono (fun x g4 hx => ?_) (fun b' _ hb' => Or.inl hb')
      obtain ⟨⟨q, rfl, q0, q1⟩, hs4⟩ := hx
      have hF4 := hF3.trans hs4.f
      have hz4 := hs4.f.cells hz3 (by omega)
      have h54 := hs4.f.cells h53 (by omega)
      have hq : ((L.length : Int) : Int) + (q - 1) = (L.length : Int) + (q - 1) := rfl
      obtain ⟨w1, w2, w3, w4⟩ := wrb g4 _ [.int .i64 ((L.length : Int) + (q - 1)), .int .i64 lm, .int .i64 wd, .int .i64 ls, eI lw, .int .i64 hs, eI hw] hF4 hz4 (cells_lt h54)
      have hf := fin _ _ ⟨(L.length : Int) + (q - 1), lm, wd, ⟨ls, lw⟩, ⟨hs, hw⟩⟩ w1 (by omega) (by show (-10 : Int) ≤ (lm : Int); omega) (by show ((lm : Int) : Int) ≤ 200000; omega) w4
      have w9 := fun cs => cells_wr2 w4 (cs := cs)
      simp only [zS7] at w2
      (try (simp (disch := first | omega | (simp <;> omega) | fail) only [push_cast, ↓reduceIte, Nat.reduceEqDiff, Nat.reduceAdd, Nat.reduceMul, Nat.reduceSub, Nat.reduceLT, Int.reduceToNat, h54, hpm5, hpm0, w2, w3, w9, reads, List.mem_cons, List.mem_append, List.not_mem_nil, nat_ff, or_self, or_false, false_or, not_false_eq_true]))
      all_goals (try exact hf)
      done
  by_cases z2 : k = 2
  · (try (simp (disch := first | omega | (simp <;> omega) | fail) only [push_cast, ↓reduceIte, Nat.reduceEqDiff, Nat.reduceAdd, Nat.reduceMul, Nat.reduceSub, Nat.reduceLT, Int.reduceToNat, z0, z1, z2, h53, reads, List.mem_cons, List.mem_append, List.not_mem_nil, nat_ff, or_self, or_false, false_or, not_false_eq_true]))
    repeat' (with_reducible refine And.intro ?_ ?_)
    all_goals
      refine (c_spec_l1Cur_pick b c _ g3 3 hF3.2.2 (by omega) (by omega) (by omega)).mono (fun x g4 hx => ?_) (fun b' _ hb' => Or.inl hb')
      obtain ⟨⟨q, rfl, q0, q1⟩, hs4⟩ := hx
      have hF4 := hF3.trans hs4.f
      have hz4 := hs4.f.cells hz3 (by omega)
      have h54 := hs4.f.cells h53 (by omega)
      have hq : ((lm : Int) : Int) + (q - 1) = (lm : Int) + (q - 1) := rfl
      obtain ⟨w1, w2, w3, w4⟩ := wrb g4 _ [.int .i64 L.length, .int .i64 ((lm : Int) + (q - 1)), .int .i64 wd, .int .i64 ls, eI lw, .int .i64 hs, eI hw] hF4 hz4 (cells_lt h54)
      have hf := fin _ _ ⟨L.length, (lm : Int) + (q - 1), wd, ⟨ls, lw⟩, ⟨hs, hw⟩⟩ w1 (by omega) (by show (-10 : Int) ≤ ((lm : Int) + (q - 1)); omega) (by show (((lm : Int) + (q - 1)) : Int) ≤ 200000; omega) w4
      have w9 := fun cs => cells_wr2 w4 (cs := cs)
      simp only [zS7] at w2
      (try (simp (disch := first | omega | (simp <;> omega) | fail) only [push_cast, ↓reduceIte, Nat.reduceEqDiff, Nat.reduceAdd, Nat.reduceMul, Nat.reduceSub, Nat.reduceLT, Int.reduceToNat, h54, hpm5, hpm0, w2, w3, w9, reads, List.mem_cons, List.mem_append, List.not_mem_nil, nat_ff, or_self, or_false, false_or, not_false_eq_true]))
      all_goals (try exact hf)
      done
  by_cases z3 : k = 3
  · (try (simp (disch := first | omega | (simp <;> omega) | fail) only [push_cast, ↓reduceIte, Nat.reduceEqDiff, Nat.reduceAdd, Nat.reduceMul, Nat.reduceSub, Nat.reduceLT, Int.reduceToNat, z0, z1, z2, z3, h53, reads, List.mem_cons, List.mem_append, List.not_mem_nil, nat_ff, or_self, or_false, false_or, not_false_eq_true]))
    refine hbl2.go fun z t' g4 hR hx4 how4 => ?_
    obtain ⟨oz, rfl, hz⟩ := hR
    cases oz with
    | none =>
      have hz' : [] = BL := hz
      rw [← hz'] at hbL
      simp only [List.length_nil] at hbL
      omega
    | some L0 =>
      have hz' : L0 = BL := hz
      subst hz'
      obtain ⟨bz, rfl, hbz, hcz⟩ := ow_boolsS how4
      have hbz1 := hbz.1
      have hl4 := hx4.len
      have hF4 : CurF g3 g4 b c (K + 5 + 300 + 1) := ⟨hx4.len, fun k hk _ => hx4.at_ hk, hF3.2.2.frame (hx4.at_ hF3.2.2.lt)⟩
      (try (simp (disch := first | omega | (simp <;> omega) | fail) only [push_cast, ↓reduceIte, Nat.reduceEqDiff, Nat.reduceAdd, Nat.reduceMul, Nat.reduceSub, Nat.reduceLT, Int.reduceToNat]))
      refine (c_spec_l1Cur_pickAny b c _ g4 (L0.length : Int) hF4.2.2 (by omega) (by omega)).mono (fun y g5 hy => ?_) (fun b' _ hb' => Or.inl hb')
      obtain ⟨⟨mp, rfl, mp0, mp1⟩, hs5⟩ := hy
      obtain ⟨p, rfl⟩ : ∃ p : Nat, mp = (p : Int) := ⟨mp.toNat, by omega⟩
      have hp1 : p < L0.length := by omega
      have hF5 := hF4.trans hs5.f
      have hbl3 := hF3.2.2.lt
      have hcz5 : g5.cells bz = some (L0.map .bool) := hs5.f.cells hcz (by omega)
      have hl5 := hs5.f.1
      have hiaz : iaddrA 1 (.sl bz 0 1 L0.length L0.length) (.int .i64 (p : Int)) = some (.adr bz p) := by
        rw [iaddrA_sl (by omega) (by omega)]
        simp
      have hgz : (L0.map AV.bool)[p]? = some (.bool (L0.getD p false)) := by simp [hp1]
      have hset : over (L0.map AV.bool) p [.bool (!(L0.getD p false))] = (L0.set p (!(L0.getD p false))).map .bool := by rw [over_set (by simp; exact hp1), List.map_set]
      obtain ⟨L', hL'⟩ : ∃ L', L' = L0.set p (!(L0.getD p false)) := ⟨_, rfl⟩
      have hLl : L'.length = L0.length := by rw [hL']; simp
      have hlm : (L0.map AV.bool).length = L0.length := by simp
      have hg3l := hF3.1
      have hpmz : (h.length ≤ bz) = True := eq_true (by omega)
      (try (simp (disch := first | omega | (simp <;> omega) | fail) only [push_cast, ↓reduceIte, Nat.reduceEqDiff, Nat.reduceAdd, Nat.reduceMul, Nat.reduceSub, Nat.reduceLT, Int.reduceToNat, hiaz, hcz5, hgz, hlm, hpmz, hset, ← hL']))
      have hwz : ∀ k, k ≠ bz → (wr g5 bz (L'.map .bool))[k]? = g5[k]? := fun k hk => by
        unfold wr
        rw [List.getElem?_set_ne (Ne.symm hk)]
      have hF6 : CurF g3 (wr g5 bz (L'.map .bool)) b c (K + 5 + 300 + 1 + 1) := ⟨by simp [wr]; omega, fun k hk hn => (hwz k (by omega)).trans (hF5.2.1 k hk hn), hF5.2.2.frame (hwz b (by omega))⟩
      have hcz6 : H.cells (wr g5 bz (L'.map .bool)) bz = some (L'.map .bool) := cells_wr2 (cells_lt hcz5)
      have hvz : Vw (wr g5 bz (L'.map .bool)) 0 (.sl bz 0 1 L0.length L0.length) (eO (some L')) := by
        rw [← hLl]
        exact vw_all (Nat.zero_le _) hcz6 (by simp) (one_map fun _ => rfl) (free_map_ fun _ => free_bool)
      have hbs := biSome_oS (some L') (by show L'.length ≤ 5000; omega)
      refine hbs.goL (.cons hvz .nil) fun x t' g6 hR hx6 how6 => ?_
      subst hR
      obtain ⟨wz, Fz, rfl, k1, k2, k3, k4, _⟩ := ow_bt (b := sbV L') how6
      have hF7 : CurF g3 g6 b c (K + 5 + 300 + 1 + 1) := hF6.trans ⟨hx6.len, fun k hk _ => hx6.at_ hk, hF6.2.2.frame (hx6.at_ hF6.2.2.lt)⟩
      have hFh := hF3.trans hF7
      have hz6 := hF7.cells hz3 (by omega)
      have h56 := hF7.cells h53 (by omega)
      have hlw : (wr g5 bz (L'.map AV.bool)).length = g5.length := by simp [wr]
      obtain ⟨w1, w2, w3, w4⟩ := wrb g6 _ [.int .i64 L.length, .int .i64 lm, .int .i64 wd, .int .i64 ls, eI lw, .int .i64 (sbV L').size, wz] hFh hz6 (cells_lt h56)
      have w9 := fun cs => cells_wr2 w4 (cs := cs)
      have hk2 : ∀ c, Fz c → g5.length ≤ c := fun c hc => by have := (k2 c hc).1; omega
      have hwk : ∀ (cs cs2 : List AV) c, Fz c → (wr (wr g6 b5 cs) h.length cs2)[c]? = g6[c]? := fun cs cs2 c hc => by
        have := hk2 c hc
        unfold wr
        rw [List.getElem?_set_ne (by omega), List.getElem?_set_ne (by omega)]
      have hwk0 : ∀ (g : H) (cs2 : List AV) c, c ≠ h.length → (wr g h.length cs2)[c]? = g[c]? := fun g cs2 c hc => by
        unfold wr
        rw [List.getElem?_set_ne (Ne.symm hc)]
      have hf : ∃ t, Vw (wr (wr g6 b5 [.int .i64 L.length, .int .i64 lm, .int .i64 wd, .int .i64 ls, eI lw, .int .i64 (sbV L').size, wz]) h.length [.int .i64 L.length, .int .i64 lm, .int .i64 wd, .int .i64 ls, eI lw, .int .i64 (sbV L').size, wz]) h.length (.agg [.int .i64 L.length, .int .i64 lm, .int .i64 wd, .int .i64 ls, eI lw, .int .i64 (sbV L').size, wz]) t ∧ (∃ s : Spa, t = eSp s ∧ -10 ≤ s.limit ∧ s.limit ≤ 200000) ∧ CurF h (wr (wr g6 b5 [.int .i64 L.length, .int .i64 lm, .int .i64 wd, .int .i64 ls, eI lw, .int .i64 (sbV L').size, wz]) h.length [.int .i64 L.length, .int .i64 lm, .int .i64 wd, .int .i64 ls, eI lw, .int .i64 (sbV L').size, wz]) b c (K + 500) := by
        refine ⟨eSp ⟨L.length, lm, wd, ⟨ls, lw⟩, sbV L'⟩, .agg rfl fun j y t hy ht => ?_, ⟨_, rfl, by show (-10 : Int) ≤ (lm : Int); omega, by show (lm : Int) ≤ 200000; omega⟩, by simpa [wr] using w1.1, fun q hq hn => (hwk0 _ _ q (by omega)).trans (w1.2.1 q hq hn), (w1.2.2.mono (by omega)).frame (hwk0 _ _ b (by omega))⟩
        rcases j with _ | _ | _ | _ | _ | _ | _ | j
        · simp [cSp] at hy ht
          subst hy ht
          exact .free free_int
        · simp [cSp] at hy ht
          subst hy ht
          exact .free free_int
        · simp [cSp] at hy ht
          subst hy ht
          exact .free free_int
        · simp [cSp] at hy ht
          subst hy ht
          exact .free free_int
        · simp [cSp] at hy ht
          subst hy ht
          exact .free free_eI
        · simp [cSp] at hy ht
          subst hy ht
          exact .free free_int
        · simp [cSp] at hy ht
          subst hy ht
          exact (k1.frame fun c hc => hwk _ _ c hc).vw1 fun c hc => by have := hk2 c hc; omega
        · simp at hy
      simp only [zS7] at w2
      (try (simp (disch := first | omega | (simp <;> omega) | fail) only [push_cast, ↓reduceIte, Nat.reduceEqDiff, Nat.reduceAdd, Nat.reduceMul, Nat.reduceSub, Nat.reduceLT, Int.reduceToNat, h56, hpm5, hpm0, w2, w3, w9, k3, k4, reads, List.mem_cons, List.mem_append, List.not_mem_nil, nat_ff, or_self, or_false, false_or, not_false_eq_true]))
      all_goals (try exact hf)
      done
  by_cases z4 : k = 4
  · (try (simp (disch := first | omega | (simp <;> omega) | fail) only [push_cast, ↓reduceIte, Nat.reduceEqDiff, Nat.reduceAdd, Nat.reduceMul, Nat.reduceSub, Nat.reduceLT, Int.reduceToNat, z0, z1, z2, z3, z4, h53, reads, List.mem_cons, List.mem_append, List.not_mem_nil, nat_ff, or_self, or_false, false_or, not_false_eq_true]))
    refine (c_spec_l1Cur_anyBitsF b c _ g3 hF3.2.2 (by omega)).mono (fun x g4 hx => ?_) (fun b' _ hb' => Or.inl hb')
    obtain ⟨⟨⟨q1, q2⟩, rfl⟩, hs4⟩ := hx
    have hF4 := hF3.trans hs4
    have hz4 := hs4.cells hz3 (by omega)
    have h54 := hs4.cells h53 (by omega)
    obtain ⟨w1, w2, w3, w4⟩ := wrb g4 _ [.int .i64 L.length, .int .i64 lm, .int .i64 wd, .int .i64 q1, eI q2, .int .i64 hs, eI hw] hF4 hz4 (cells_lt h54)
    have hf := fin _ _ ⟨L.length, lm, wd, ⟨q1, q2⟩, ⟨hs, hw⟩⟩ w1 (by omega) (by show (-10 : Int) ≤ (lm : Int); omega) (by show (lm : Int) ≤ 200000; omega) w4
    have w9 := fun cs => cells_wr2 w4 (cs := cs)
    simp only [zS7] at w2
    (try (simp (disch := first | omega | (simp <;> omega) | fail) only [push_cast, ↓reduceIte, Nat.reduceEqDiff, Nat.reduceAdd, Nat.reduceMul, Nat.reduceSub, Nat.reduceLT, Int.reduceToNat, h54, hpm5, hpm0, w2, w3, w9, reads, List.mem_cons, List.mem_append, List.not_mem_nil, nat_ff, or_self, or_false, false_or, not_false_eq_true]))
    all_goals (try exact hf)
    done
  have hf := fin g3 _ ⟨L.length, lm, wd, ⟨ls, lw⟩, ⟨hs, hw⟩⟩ hF3 (by omega) (by show (-10 : Int) ≤ (lm : Int); omega) (by show (lm : Int) ≤ 200000; omega) (cells_lt hz3)
  have w9 := fun cs => cells_wr2 (cells_lt hz3) (cs := cs)
  have w2 := hz3
  simp only [zS7] at w2
  (try (simp (disch := first | omega | (simp <;> omega) | fail) only [push_cast, ↓reduceIte, Nat.reduceEqDiff, Nat.reduceAdd, Nat.reduceMul, Nat.reduceSub, Nat.reduceLT, Int.reduceToNat, z0, z1, z2, z3, z4, h53, hpm0, w2, w9, reads, List.mem_cons, List.mem_append, List.not_mem_nil, nat_ff, or_self, or_false, false_or, not_false_eq_true]))
  all_goals (try exact hf)
  done

theorem c_spec_DrawImageOfSparse (c : Option (List UInt8)) : Fn Tryz.prog 5 [eU c] (fun x => ∃ s : Spa, x = eSp s ∧ -10 ≤ s.limit ∧ s.limit ≤ 200000) := by
  refine Fn.froze_ fun h => ?_
  refine enter (by kernel_rfl) e5 (by kernel_rfl) rfl fun hok => ?_
  simp only [r5, initEnv_1]
  have hfb : fillA [.nils, .int .i64 0, .int .u64 0] [(0, 1, eU c)] = some [eU c, .int .i64 0, .int .u64 0] := by cases c <;> rfl
  (try (simp (disch := first | omega | (simp <;> omega) | fail) only [push_cast, ↓reduceIte, Nat.reduceEqDiff, Nat.reduceAdd, Nat.reduceMul, Nat.reduceSub, Nat.reduceLT, Int.reduceToNat, hfb]))
  refine (c_spec_l1Cur_sparse (h.length + 1) c 0 (h ++ [some (.cells zS7), some (.cells [eU c, .int .i64 0, .int .u64 0])]) ⟨0, 0, by rw [cells_hk]; rfl, Nat.le_refl _⟩ (by omega)).mono (fun x g0 hx => ?_) (fun b' _ hb' => Or.inr (Nat.le_trans (Nat.le_succ _) (Nat.le_of_eq hb'.symm)))
  obtain ⟨⟨s, rfl, hs1, hs2⟩, hF⟩ := hx
  have c0 : g0.cells h.length = some zS7 := hF.cells (k := h.length) (by rw [cells_h0]; rfl) (by omega)
  have hw := fun cs => cells_wr2 (cells_lt c0) (cs := cs)
  have hpm : (h.length ≤ h.length) = True := by simp
  have hfin : ∀ hh : H, ∃ t', Vw hh h.length (eSp s) t' ∧ ∃ s : Spa, t' = eSp s ∧ -10 ≤ s.limit ∧ s.limit ≤ 200000 := fun hh => ⟨_, .free free_eSp, s, rfl, hs1, hs2⟩
  obtain ⟨cn, lm, wd, ⟨ls, lw⟩, ⟨hs, hw2⟩⟩ := s
  (try (simp (disch := first | omega | (simp <;> omega) | fail) only [push_cast, ↓reduceIte, Nat.reduceEqDiff, Nat.reduceAdd, Nat.reduceMul, Nat.reduceSub, Nat.reduceLT, Int.reduceToNat, c0, hpm, hw, zS7]))
  all_goals (try exact hfin _)
  done

end Go.Proofs.YtbkcenkfecndjaaGreatDoor.M
