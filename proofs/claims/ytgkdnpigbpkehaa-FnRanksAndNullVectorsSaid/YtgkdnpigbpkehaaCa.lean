/-
  What the functions return.
-/
import Derived.Test.YtgkdnpigbpkehaaFa
import Derived.Lib.ItoaLen
namespace Go.Proofs.Ytgkdnpigbpkehaa.M
open Go Go.RowKit
set_option linter.unusedVariables false
set_option linter.unusedSimpArgs false
set_option maxRecDepth 4000

/-- What is left of a budget. -/
def szv (left : Int) (w : Nat) : Int := if (w : Int) ≤ left then left - w else -1
theorem szv_ok {left : Int} {w : Nat} (h : 0 ≤ szv left w) : (w : Int) ≤ left := by
  unfold szv at h
  split at h <;> omega
def wS (a : Option (List Str)) : Nat := (lS a).length + ((lS a).map List.length).sum
theorem sum_take_le (l : List Nat) (i : Nat) : (l.take i).sum ≤ l.sum := by
  have := congrArg List.sum (List.take_append_drop i l)
  rw [List.sum_append] at this
  omega
theorem sum_take_succ {l : List Nat} {i : Nat} (hi : i < l.length) : (l.take (i + 1)).sum = (l.take i).sum + l.getD i 0 := by
  rw [List.take_add_one, List.sum_append]
  simp [hi]

theorem c_laws_szIntS (a : Option (List Int)) (left : Int) (hl0 : 0 ≤ left) (hleft : left ≤ 1048576) : Fn Try.prog 119 [eI a, .int .i64 left] (· = .int .i64 (szv left (lI a).length)) := by
  refine Fn.of free_int fun h => ?_
  refine enter (by kernel_rfl) e119 (by kernel_rfl) rfl fun hok => ?_
  simp only [r119, initEnv_2]
  have hlen := ok_eI (okV_0 hok)
  (try (simp (disch := first | omega | (simp <;> omega) | fail) only [push_cast, ↓reduceIte, Nat.reduceEqDiff, Nat.reduceAdd, Nat.reduceMul, Nat.reduceSub, Nat.reduceLT, Int.reduceToNat]))
  first | refine goC_split (fun hc => ?_) (fun hc => ?_) | refine cnd_split (fun hc => ?_) (fun hc => ?_)
  · (try (simp only [decide_eq_true_eq, decide_eq_false_iff_not, Bool.not_eq_true', Bool.not_eq_false', Bool.and_eq_true, Bool.or_eq_true, Int.not_lt, Int.not_le] at hc)); (try (simp (disch := first | omega | (simp <;> omega) | fail) only [push_cast, ↓reduceIte, Nat.reduceEqDiff, Nat.reduceAdd, Nat.reduceMul, Nat.reduceSub, Nat.reduceLT, Int.reduceToNat]))
    rw [szv, if_neg (by omega)]
  · (try (simp only [decide_eq_true_eq, decide_eq_false_iff_not, Bool.not_eq_true', Bool.not_eq_false', Bool.and_eq_true, Bool.or_eq_true, Int.not_lt, Int.not_le] at hc)); (try (simp (disch := first | omega | (simp <;> omega) | fail) only [push_cast, ↓reduceIte, Nat.reduceEqDiff, Nat.reduceAdd, Nat.reduceMul, Nat.reduceSub, Nat.reduceLT, Int.reduceToNat]))
    rw [szv, if_pos (by omega)]

--eng eB cB
structure Bt where
  size : Int
  words : Option (List Int)
  deriving Inhabited
def cB (b : Bt) : List AV := [.int .i64 b.size, eI b.words]
theorem cB_len (b : Bt) : (cB b).length = 2 := rfl
def eB (b : Bt) : AV := .agg (cB b)
theorem free_cB {b : Bt} : ∀ c ∈ cB b, Free c := free_cons_ free_int (free_cons_ free_eI free_nil_)
theorem free_eB {b : Bt} : Free (eB b) := free_agg free_cB
def cpB (b : Bt) : Bt := ⟨b.size, some (lI b.words)⟩
/-- The last word has no bit behind the size. -/
def lastOk (size : Int) (ws : List Int) : Bool := decide (size % 16 = 0) || decide (Int.fdiv (ws.getD (ws.length - 1) 0) (2 ^ (min (size % 16).toNat IntKind.i64.bits)) = 0)
def okWords (ws : List Int) : Bool := ws.all fun w => decide (0 ≤ w) && decide (w ≤ 65535)
def okBt (b : Bt) : Bool := (decide (0 ≤ b.size) && decide (b.size ≤ 4096)) && (decide (((lI b.words).length : Int) = (b.size + 15) / 16) && (okWords (lI b.words) && lastOk b.size (lI b.words)))
theorem okBt_words {b : Bt} (h : okBt b = true) : ∃ B : Nat, lI b.words = wordsN B (lI b.words).length ∧ 0 ≤ b.size ∧ b.size ≤ 4096 ∧ ((lI b.words).length : Int) = (b.size + 15) / 16 := by
  simp only [okBt, okWords, Bool.and_eq_true, decide_eq_true_eq, List.all_eq_true] at h
  exact ⟨numW (lI b.words), (wordsN_num h.2.2.1).symm, h.1.1, h.1.2, h.2.1⟩
theorem ow_bits {h : H} {x : AV} {n : Int} {ws : List Int} {G : Nat → Prop} (ho : Ow h [x] [eB ⟨n, some ws⟩] G) : ∃ b, x = .agg [.int .i64 n, .sl b 0 1 ws.length ws.length] ∧ Ow h [.int .i64 n, .sl b 0 1 ws.length ws.length] (cB ⟨n, some ws⟩) G := by
  obtain ⟨cs, rfl, h1⟩ := Ow.openAgg (show Ow h [x] [.agg (cB ⟨n, some ws⟩)] G from ho)
  have hl : cs.length = 2 := h1.len.symm
  match cs, hl, h1 with
  | [x1, x2], _, h1 =>
    obtain ⟨F, F', f1, f2, _, _⟩ := h1.uncons
    have e1 : x1 = .int .i64 n := f1.atomOf rfl
    obtain ⟨b, e2⟩ := Ow.sl1 (show Ow h [x2] [.ro 1 _ _] F' from f2)
    subst e1 e2
    exact ⟨b, rfl, h1⟩

attribute [push_cast] eB cB
theorem c_laws_szBits (b : Bt) (left : Int) (hl0 : 0 ≤ left) (hleft : left ≤ 1048576) : Fn Try.prog 97 [eB b, .int .i64 left] (· = .int .i64 (szv left (lI b.words).length)) := by
  refine Fn.of free_int fun h => ?_
  refine enter (by kernel_rfl) e97 (by kernel_rfl) rfl fun hok => ?_
  simp only [r97, initEnv_2]
  (try (simp (disch := first | omega | (simp <;> omega) | fail) only [push_cast, ↓reduceIte, Nat.reduceEqDiff, Nat.reduceAdd, Nat.reduceMul, Nat.reduceSub, Nat.reduceLT, Int.reduceToNat]))
  refine (c_laws_szIntS _ _ hl0 hleft).call ?_
  (try (simp (disch := first | omega | (simp <;> omega) | fail) only [push_cast, ↓reduceIte, Nat.reduceEqDiff, Nat.reduceAdd, Nat.reduceMul, Nat.reduceSub, Nat.reduceLT, Int.reduceToNat]))
  first | refine goC_split (fun hc => ?_) (fun hc => ?_) | refine cnd_split (fun hc => ?_) (fun hc => ?_)
  · (try (simp only [decide_eq_true_eq, decide_eq_false_iff_not, Bool.not_eq_true', Bool.not_eq_false', Bool.and_eq_true, Bool.or_eq_true, Int.not_lt, Int.not_le] at hc)); (try (simp (disch := first | omega | (simp <;> omega) | fail) only [push_cast, ↓reduceIte, Nat.reduceEqDiff, Nat.reduceAdd, Nat.reduceMul, Nat.reduceSub, Nat.reduceLT, Int.reduceToNat]))
    unfold szv at hc ⊢
    split at hc
    · omega
    · rename_i hn
      rw [if_neg hn]
  · (try (simp only [decide_eq_true_eq, decide_eq_false_iff_not, Bool.not_eq_true', Bool.not_eq_false', Bool.and_eq_true, Bool.or_eq_true, Int.not_lt, Int.not_le] at hc)); (try (simp (disch := first | omega | (simp <;> omega) | fail) only [push_cast, ↓reduceIte, Nat.reduceEqDiff, Nat.reduceAdd, Nat.reduceMul, Nat.reduceSub, Nat.reduceLT, Int.reduceToNat]))

--eng lenA_eBS iaddr_eBS ld_B get_B0 get_B1 cellsOf_eBS one_eBS
def eBS : Option (List Bt) → AV
  | none => .nils
  | some l => .ro 2 (l.flatMap cB) l.length
def lB : Option (List Bt) → List Bt
  | none => []
  | some l => l
theorem lenA_eBS {l : Option (List Bt)} : lenA (eBS l) = some (.int .i64 (lB l).length) := by cases l <;> rfl
theorem iaddr_eBS {l : Option (List Bt)} {k : IntKind} {n : Int} (h1 : 0 ≤ n) (h2 : n < (lB l).length) : iaddrA 2 (eBS l) (.int k n) = some (.rad ((lB l).flatMap cB) (n.toNat * 2)) := by
  cases l with
  | none => simp [lB] at h2; omega
  | some l => exact iaddrA_ro h1 h2
theorem ld_B {l : List Bt} {i : Nat} (hi : i < l.length) : ld true 2 (l.flatMap cB) (i * 2) = some (.agg (cB (l.getD i default))) := ld_row cB_len default hi
theorem get_B0 {l : List Bt} {i : Nat} (hi : i < l.length) : (l.flatMap cB)[i * 2]? = some (.int .i64 (l.getD i default).size) := flatMap_get cB_len default (k := 0) hi (by omega)
theorem get_B1 {l : List Bt} {i : Nat} (hi : i < l.length) : (l.flatMap cB)[i * 2 + 1]? = some (eI (l.getD i default).words) := flatMap_get cB_len default (k := 1) hi (by omega)
theorem one_eBS {l : Option (List Bt)} : one (eBS l) = true := by cases l <;> rfl
theorem cellsOf_eBS {l : Option (List Bt)} : cellsOf (eBS l) = [eBS l] := by cases l <;> rfl
theorem free_eBS {l : Option (List Bt)} : Free (eBS l) := by
  cases l with
  | none => exact free_nils
  | some l => exact free_ro (fun c hc => by obtain ⟨p, _, hp⟩ := List.mem_flatMap.1 hc; exact free_cB c hp)
theorem ok_eBS {l : Option (List Bt)} (h : OkV (eBS l)) : (lB l).length ≤ 9223372036854775807 := by
  cases l with
  | none => simp [lB]
  | some l => exact h.ro.1
def wBS (a : Option (List Bt)) : Nat := (lB a).length + ((lB a).map fun p => (lI p.words).length).sum
def cBc (p : Bt) : List AV := cB (cpB p)
theorem cBc_len (p : Bt) : (cBc p).length = 2 := rfl

attribute [push_cast] lenA_eBS iaddr_eBS ld_B get_B0 get_B1 cellsOf_eBS one_eBS
theorem c_laws_szBitsS (a : Option (List Bt)) (left : Int) (hl0 : 0 ≤ left) (hleft : left ≤ 1048576) : Fn Try.prog 57 [eBS a, .int .i64 left] (· = .int .i64 (szv left (wBS a))) := by
  refine Fn.of free_int fun h => ?_
  refine enter (by kernel_rfl) e57 (by kernel_rfl) rfl fun hok => ?_
  simp only [r57, initEnv_2]
  have hlen := ok_eBS (okV_0 hok)
  (try (simp (disch := first | omega | (simp <;> omega) | fail) only [push_cast, ↓reduceIte, Nat.reduceEqDiff, Nat.reduceAdd, Nat.reduceMul, Nat.reduceSub, Nat.reduceLT, Int.reduceToNat]))
  first | refine goC_split (fun hc => ?_) (fun hc => ?_) | refine cnd_split (fun hc => ?_) (fun hc => ?_)
  · (try (simp only [decide_eq_true_eq, decide_eq_false_iff_not, Bool.not_eq_true', Bool.not_eq_false', Bool.and_eq_true, Bool.or_eq_true, Int.not_lt, Int.not_le] at hc)); (try (simp (disch := first | omega | (simp <;> omega) | fail) only [push_cast, ↓reduceIte, Nat.reduceEqDiff, Nat.reduceAdd, Nat.reduceMul, Nat.reduceSub, Nat.reduceLT, Int.reduceToNat]))
    rw [szv, if_neg (by unfold wBS; omega)]
  (try (simp only [decide_eq_true_eq, decide_eq_false_iff_not, Bool.not_eq_true', Bool.not_eq_false', Bool.and_eq_true, Bool.or_eq_true, Int.not_lt, Int.not_le] at hc)); (try (simp (disch := first | omega | (simp <;> omega) | fail) only [push_cast, ↓reduceIte, Nat.reduceEqDiff, Nat.reduceAdd, Nat.reduceMul, Nat.reduceSub, Nat.reduceLT, Int.reduceToNat]))
  refine T_for (lB a).length (fun i e h' => Pins e [(0, eBS a), (1, .int .i64 (left - (lB a).length - (((lB a).map fun p => (lI p.words).length).take i).sum)), (5, .int .i64 i)] ∧ h' = h ∧ (((lB a).length + (((lB a).map fun p => (lI p.words).length).take i).sum : Nat) : Int) ≤ left) ?_ ?_
  · (try (simp (disch := first | omega | (simp <;> omega) | fail) only [push_cast, ↓reduceIte, Nat.reduceEqDiff, Nat.reduceAdd, Nat.reduceMul, Nat.reduceSub, Nat.reduceLT, Int.reduceToNat]))
    all_goals (try simp)
    all_goals (try omega)
  rintro i e h' hi ⟨hp, rfl, hle⟩
  refine T_pins hp fun e => ?_
  (try (simp (disch := first | omega | (simp <;> omega) | fail) only [push_cast, ↓reduceIte, Nat.reduceEqDiff, Nat.reduceAdd, Nat.reduceMul, Nat.reduceSub, Nat.reduceLT, Int.reduceToNat]))
  first | refine goC_split (fun hc => ?_) (fun hc => ?_) | refine cnd_split (fun hc => ?_) (fun hc => ?_)
  · (try (simp only [decide_eq_true_eq, decide_eq_false_iff_not, Bool.not_eq_true', Bool.not_eq_false', Bool.and_eq_true, Bool.or_eq_true, Int.not_lt, Int.not_le] at hc)); (try (simp (disch := first | omega | (simp <;> omega) | fail) only [push_cast, ↓reduceIte, Nat.reduceEqDiff, Nat.reduceAdd, Nat.reduceMul, Nat.reduceSub, Nat.reduceLT, Int.reduceToNat]))
    have hi : i < (lB a).length := by omega
    have hts : ((((lB a).map fun p => (lI p.words).length)).take (i + 1)).sum = (((lB a).map fun p => (lI p.words).length).take i).sum + (lI ((lB a).getD i default).words).length := by
      rw [sum_take_succ (by simpa using hi)]
      simp [hi]
    have hle3 := sum_take_le ((lB a).map fun p => (lI p.words).length) (i + 1)
    refine (c_laws_szBits ((lB a).getD i default) _ (by omega) (by omega)).call ?_
    (try (simp (disch := first | omega | (simp <;> omega) | fail) only [push_cast, ↓reduceIte, Nat.reduceEqDiff, Nat.reduceAdd, Nat.reduceMul, Nat.reduceSub, Nat.reduceLT, Int.reduceToNat]))
    first | refine goC_split (fun hc => ?_) (fun hc => ?_) | refine cnd_split (fun hc => ?_) (fun hc => ?_)
    · (try (simp only [decide_eq_true_eq, decide_eq_false_iff_not, Bool.not_eq_true', Bool.not_eq_false', Bool.and_eq_true, Bool.or_eq_true, Int.not_lt, Int.not_le] at hc)); (try (simp (disch := first | omega | (simp <;> omega) | fail) only [push_cast, ↓reduceIte, Nat.reduceEqDiff, Nat.reduceAdd, Nat.reduceMul, Nat.reduceSub, Nat.reduceLT, Int.reduceToNat]))
      unfold szv at hc
      rw [szv, if_neg (by unfold wBS; split at hc <;> omega)]
    · (try (simp only [decide_eq_true_eq, decide_eq_false_iff_not, Bool.not_eq_true', Bool.not_eq_false', Bool.and_eq_true, Bool.or_eq_true, Int.not_lt, Int.not_le] at hc)); (try (simp (disch := first | omega | (simp <;> omega) | fail) only [push_cast, ↓reduceIte, Nat.reduceEqDiff, Nat.reduceAdd, Nat.reduceMul, Nat.reduceSub, Nat.reduceLT, Int.reduceToNat]))
      unfold szv at hc
      split at hc
      · rename_i hn
        rw [szv, if_pos hn, hts]
        (try (simp (disch := first | omega | (simp <;> omega) | fail) only [push_cast, ↓reduceIte, Nat.reduceEqDiff, Nat.reduceAdd, Nat.reduceMul, Nat.reduceSub, Nat.reduceLT, Int.reduceToNat]))
      · omega
  · (try (simp only [decide_eq_true_eq, decide_eq_false_iff_not, Bool.not_eq_true', Bool.not_eq_false', Bool.and_eq_true, Bool.or_eq_true, Int.not_lt, Int.not_le] at hc)); (try (simp (disch := first | omega | (simp <;> omega) | fail) only [push_cast, ↓reduceIte, Nat.reduceEqDiff, Nat.reduceAdd, Nat.reduceMul, Nat.reduceSub, Nat.reduceLT, Int.reduceToNat]))
    have ht : (((lB a).map fun p => (lI p.words).length).take i).sum = ((lB a).map fun p => (lI p.words).length).sum := by
      rw [List.take_of_length_le (by simp; omega)]
    rw [szv, if_pos (by unfold wBS; omega)]
    unfold wBS
    (try (simp (disch := first | omega | (simp <;> omega) | fail) only [push_cast, ↓reduceIte, Nat.reduceEqDiff, Nat.reduceAdd, Nat.reduceMul, Nat.reduceSub, Nat.reduceLT, Int.reduceToNat]))

--eng lenA_eO iaddr_eO get_O one_eO cellsOf_eO
def eO : Option (List Bool) → AV
  | none => .nils
  | some l => .ro 1 (l.map .bool) l.length
def lO : Option (List Bool) → List Bool
  | none => []
  | some l => l
theorem lenA_eO {l : Option (List Bool)} : lenA (eO l) = some (.int .i64 (lO l).length) := by cases l <;> rfl
theorem iaddr_eO {l : Option (List Bool)} {k : IntKind} {n : Int} (h1 : 0 ≤ n) (h2 : n < (lO l).length) : iaddrA 1 (eO l) (.int k n) = some (.rad ((lO l).map .bool) n.toNat) := by
  cases l with
  | none => simp [lO] at h2; omega
  | some l => exact (iaddrA_ro h1 h2).trans (by simp [lO])
theorem get_O {l : List Bool} {i : Nat} (hi : i < l.length) : (l.map AV.bool)[i]? = some (.bool (l.getD i false)) := by simp [hi]
theorem one_eO {l : Option (List Bool)} : one (eO l) = true := by cases l <;> rfl
theorem cellsOf_eO {l : Option (List Bool)} : cellsOf (eO l) = [eO l] := by cases l <;> rfl
theorem free_eO {l : Option (List Bool)} : Free (eO l) := by
  cases l with
  | none => exact free_nils
  | some l => exact free_ro (free_map_ fun _ => free_bool)
theorem ok_eO {l : Option (List Bool)} (h : OkV (eO l)) : (lO l).length ≤ 9223372036854775807 := by
  cases l with
  | none => simp [lO]
  | some l => exact h.ro.1

attribute [push_cast] lenA_eO iaddr_eO get_O one_eO cellsOf_eO
theorem c_laws_szBoolS (a : Option (List Bool)) (left : Int) (hl0 : 0 ≤ left) (hleft : left ≤ 1048576) : Fn Try.prog 58 [eO a, .int .i64 left] (· = .int .i64 (szv left (lO a).length)) := by
  refine Fn.of free_int fun h => ?_
  refine enter (by kernel_rfl) e58 (by kernel_rfl) rfl fun hok => ?_
  simp only [r58, initEnv_2]
  have hlen := ok_eO (okV_0 hok)
  (try (simp (disch := first | omega | (simp <;> omega) | fail) only [push_cast, ↓reduceIte, Nat.reduceEqDiff, Nat.reduceAdd, Nat.reduceMul, Nat.reduceSub, Nat.reduceLT, Int.reduceToNat]))
  first | refine goC_split (fun hc => ?_) (fun hc => ?_) | refine cnd_split (fun hc => ?_) (fun hc => ?_)
  · (try (simp only [decide_eq_true_eq, decide_eq_false_iff_not, Bool.not_eq_true', Bool.not_eq_false', Bool.and_eq_true, Bool.or_eq_true, Int.not_lt, Int.not_le] at hc)); (try (simp (disch := first | omega | (simp <;> omega) | fail) only [push_cast, ↓reduceIte, Nat.reduceEqDiff, Nat.reduceAdd, Nat.reduceMul, Nat.reduceSub, Nat.reduceLT, Int.reduceToNat]))
    rw [szv, if_neg (by omega)]
  · (try (simp only [decide_eq_true_eq, decide_eq_false_iff_not, Bool.not_eq_true', Bool.not_eq_false', Bool.and_eq_true, Bool.or_eq_true, Int.not_lt, Int.not_le] at hc)); (try (simp (disch := first | omega | (simp <;> omega) | fail) only [push_cast, ↓reduceIte, Nat.reduceEqDiff, Nat.reduceAdd, Nat.reduceMul, Nat.reduceSub, Nat.reduceLT, Int.reduceToNat]))
    rw [szv, if_pos (by omega)]

def sameB (p q : Bt) : Bool := decide (p.size = q.size) && decide (lI p.words = lI q.words)
theorem sameB_cp (p : Bt) : sameB (cpB p) (cpB p) = true := by simp [sameB]
/-- The first so many are the same. -/
def sameFromB (l m : List Bt) : Nat → Bool
  | 0 => true
  | i + 1 => sameFromB l m i && sameB (l.getD i default) (m.getD i default)
theorem sameFromB_false {l m : List Bt} {i : Nat} : ∀ {j}, i ≤ j → sameFromB l m i = false → sameFromB l m j = false
  | 0, h, hf => by
    rw [show i = 0 by omega] at hf
    exact hf
  | j + 1, h, hf => by
    by_cases hi : i = j + 1
    · rw [← hi]
      exact hf
    · simp [sameFromB, sameFromB_false (show i ≤ j by omega) hf]
def sameBS (l m : List Bt) : Bool := decide ((l.length : Int) = m.length) && sameFromB l m l.length
theorem sameBS_cp (l : List Bt) : sameBS (l.map cpB) (l.map cpB) = true := by
  have : ∀ n, sameFromB (l.map cpB) (l.map cpB) n = true := by
    intro n
    induction n with
    | zero => rfl
    | succ n ih => simp [sameFromB, ih, sameB]
  simp [sameBS, this]

--eng eSy
structure Sy where
  size : Int
  rows : Option (List Bt)
  right : Option (List Bool)
def eSy (s : Sy) : AV := .agg [.int .i64 s.size, eBS s.rows, eO s.right]
def cpSy (s : Sy) : Sy := ⟨s.size, some ((lB s.rows).map cpB), some (lO s.right)⟩
theorem free_eSy {s : Sy} : Free (eSy s) := free_agg (free_cons_ free_int (free_cons_ free_eBS (free_cons_ free_eO free_nil_)))
def wSy (s : Sy) : Nat := wBS s.rows + (lO s.right).length

attribute [push_cast] eSy
theorem c_laws_szSystem (s : Sy) (left : Int) (hl0 : 0 ≤ left) (hleft : left ≤ 1048576) : Fn Try.prog 17 [eSy s, .int .i64 left] (· = .int .i64 (szv left (wSy s))) := by
  refine Fn.of free_int fun h => ?_
  refine enter (by kernel_rfl) e17 (by kernel_rfl) rfl fun hok => ?_
  simp only [r17, initEnv_2]
  (try (simp (disch := first | omega | (simp <;> omega) | fail) only [push_cast, ↓reduceIte, Nat.reduceEqDiff, Nat.reduceAdd, Nat.reduceMul, Nat.reduceSub, Nat.reduceLT, Int.reduceToNat]))
  refine (c_laws_szBitsS _ _ hl0 hleft).call ?_
  (try (simp (disch := first | omega | (simp <;> omega) | fail) only [push_cast, ↓reduceIte, Nat.reduceEqDiff, Nat.reduceAdd, Nat.reduceMul, Nat.reduceSub, Nat.reduceLT, Int.reduceToNat]))
  first | refine goC_split (fun hc => ?_) (fun hc => ?_) | refine cnd_split (fun hc => ?_) (fun hc => ?_)
  · (try (simp only [decide_eq_true_eq, decide_eq_false_iff_not, Bool.not_eq_true', Bool.not_eq_false', Bool.and_eq_true, Bool.or_eq_true, Int.not_lt, Int.not_le] at hc)); (try (simp (disch := first | omega | (simp <;> omega) | fail) only [push_cast, ↓reduceIte, Nat.reduceEqDiff, Nat.reduceAdd, Nat.reduceMul, Nat.reduceSub, Nat.reduceLT, Int.reduceToNat]))
    unfold szv at hc ⊢
    unfold wSy
    split at hc
    · omega
    · rw [if_neg (by omega)]
  (try (simp only [decide_eq_true_eq, decide_eq_false_iff_not, Bool.not_eq_true', Bool.not_eq_false', Bool.and_eq_true, Bool.or_eq_true, Int.not_lt, Int.not_le] at hc)); (try (simp (disch := first | omega | (simp <;> omega) | fail) only [push_cast, ↓reduceIte, Nat.reduceEqDiff, Nat.reduceAdd, Nat.reduceMul, Nat.reduceSub, Nat.reduceLT, Int.reduceToNat]))
  refine (c_laws_szBoolS _ _ hc (by unfold szv; split <;> omega)).call ?_
  (try (simp (disch := first | omega | (simp <;> omega) | fail) only [push_cast, ↓reduceIte, Nat.reduceEqDiff, Nat.reduceAdd, Nat.reduceMul, Nat.reduceSub, Nat.reduceLT, Int.reduceToNat]))
  first | refine goC_split (fun hd => ?_) (fun hd => ?_) | refine cnd_split (fun hd => ?_) (fun hd => ?_)
  · (try (simp only [decide_eq_true_eq, decide_eq_false_iff_not, Bool.not_eq_true', Bool.not_eq_false', Bool.and_eq_true, Bool.or_eq_true, Int.not_lt, Int.not_le] at hd)); (try (simp (disch := first | omega | (simp <;> omega) | fail) only [push_cast, ↓reduceIte, Nat.reduceEqDiff, Nat.reduceAdd, Nat.reduceMul, Nat.reduceSub, Nat.reduceLT, Int.reduceToNat]))
    unfold szv at hc hd ⊢
    unfold wSy
    split at hc
    · split at hd
      · omega
      · rw [if_neg (by omega)]
    · omega
  · (try (simp only [decide_eq_true_eq, decide_eq_false_iff_not, Bool.not_eq_true', Bool.not_eq_false', Bool.and_eq_true, Bool.or_eq_true, Int.not_lt, Int.not_le] at hd)); (try (simp (disch := first | omega | (simp <;> omega) | fail) only [push_cast, ↓reduceIte, Nat.reduceEqDiff, Nat.reduceAdd, Nat.reduceMul, Nat.reduceSub, Nat.reduceLT, Int.reduceToNat]))
    unfold szv at hc hd ⊢
    unfold wSy
    split at hc
    · rename_i h1
      rw [if_pos h1] at hd ⊢
      split at hd
      · rename_i h2
        rw [if_pos h2, if_pos (by omega)]
        (try (simp (disch := first | omega | (simp <;> omega) | fail) only [push_cast, ↓reduceIte, Nat.reduceEqDiff, Nat.reduceAdd, Nat.reduceMul, Nat.reduceSub, Nat.reduceLT, Int.reduceToNat]))
      · omega
    · omega

theorem c_laws_toIntS_o (a : Option (List Int)) (ha : (lI a).length ≤ 1048576) : FnO Try.prog 20 [eI a] (· = eI (some (lI a))) := by
  intro h
  refine enter (by kernel_rfl) e20 (by kernel_rfl) rfl fun hok => ?_
  simp only [r20, initEnv_1]
  (try (simp (disch := first | omega | (simp <;> omega) | fail) only [push_cast, ↓reduceIte, Nat.reduceEqDiff, Nat.reduceAdd, Nat.reduceMul, Nat.reduceSub, Nat.reduceLT, Int.reduceToNat]))
  refine T_for (lI a).length (fun i e h' => Pins e [(0, eI a), (3, .sl h.length 0 1 (lI a).length (lI a).length), (4, .int .i64 i)] ∧ h' = h ++ [some (.cells (fill (.int .i64) (lI a) (.int .i64 0) i))]) ?_ ?_
  · (try (simp (disch := first | omega | (simp <;> omega) | fail) only [push_cast, ↓reduceIte, Nat.reduceEqDiff, Nat.reduceAdd, Nat.reduceMul, Nat.reduceSub, Nat.reduceLT, Int.reduceToNat, fill_0]))
  rintro i e h' hi ⟨hp, rfl⟩
  refine T_pins hp fun e => ?_
  (try (simp (disch := first | omega | (simp <;> omega) | fail) only [push_cast, ↓reduceIte, Nat.reduceEqDiff, Nat.reduceAdd, Nat.reduceMul, Nat.reduceSub, Nat.reduceLT, Int.reduceToNat]))
  first | refine goC_split (fun hc => ?_) (fun hc => ?_) | refine cnd_split (fun hc => ?_) (fun hc => ?_)
  · (try (simp only [decide_eq_true_eq, decide_eq_false_iff_not, Bool.not_eq_true', Bool.not_eq_false', Bool.and_eq_true, Bool.or_eq_true, Int.not_lt, Int.not_le] at hc)); (try (simp (disch := first | omega | (simp <;> omega) | fail) only [push_cast, ↓reduceIte, Nat.reduceEqDiff, Nat.reduceAdd, Nat.reduceMul, Nat.reduceSub, Nat.reduceLT, Int.reduceToNat]))
    (try (simp (disch := first | omega | (simp <;> omega) | fail) only [push_cast, ↓reduceIte, Nat.reduceEqDiff, Nat.reduceAdd, Nat.reduceMul, Nat.reduceSub, Nat.reduceLT, Int.reduceToNat, fill_len hi]))
    rw [fill_next (d := 0) (by omega) rfl]
  · (try (simp only [decide_eq_true_eq, decide_eq_false_iff_not, Bool.not_eq_true', Bool.not_eq_false', Bool.and_eq_true, Bool.or_eq_true, Int.not_lt, Int.not_le] at hc)); (try (simp (disch := first | omega | (simp <;> omega) | fail) only [push_cast, ↓reduceIte, Nat.reduceEqDiff, Nat.reduceAdd, Nat.reduceMul, Nat.reduceSub, Nat.reduceLT, Int.reduceToNat]))
    rw [fill_all (by omega)]
    exact ⟨_, ow_map (fun _ => rfl) (by rw [cells_h0]; rfl) rfl (Nat.le_refl _), rfl⟩
theorem c_laws_toIntS (a : Option (List Int)) (ha : (lI a).length ≤ 1048576) : Fn Try.prog 20 [eI a] (· = eI (some (lI a))) := (c_laws_toIntS_o a ha).fn

theorem c_laws_toBits_o (b : Bt) (ha : (lI b.words).length ≤ 1048576) : FnO Try.prog 103 [eB b] (· = eB (cpB b)) := by
  intro h
  refine enter (by kernel_rfl) e103 (by kernel_rfl) rfl fun hok => ?_
  simp only [r103, initEnv_1]
  (try (simp (disch := first | omega | (simp <;> omega) | fail) only [push_cast, ↓reduceIte, Nat.reduceEqDiff, Nat.reduceAdd, Nat.reduceMul, Nat.reduceSub, Nat.reduceLT, Int.reduceToNat]))
  refine (c_laws_toIntS_o _ ha).use fun x t l hR how => ?_
  subst hR
  obtain ⟨bb, rfl⟩ := Ow.sl1 (show Ow _ [x] [.ro 1 _ _] _ from how)
  (try (simp (disch := first | omega | (simp <;> omega) | fail) only [push_cast, ↓reduceIte, Nat.reduceEqDiff, Nat.reduceAdd, Nat.reduceMul, Nat.reduceSub, Nat.reduceLT, Int.reduceToNat]))
  refine ⟨_, (Ow.atom rfl (how.shift (fun c hc => ?_) (by simp))).aggOf, rfl⟩
  rw [List.append_assoc]
  exact tl_k (p := [_, _, _]) (q := [_, _, _]) rfl (by simpa using hc)
theorem c_laws_toBits (b : Bt) (ha : (lI b.words).length ≤ 1048576) : Fn Try.prog 103 [eB b] (· = eB (cpB b)) := (c_laws_toBits_o b ha).fn

theorem c_laws_toBitsS_o (a : Option (List Bt)) (ha : wBS a ≤ 1048576) : FnO Try.prog 64 [eBS a] (· = eBS (some ((lB a).map cpB))) := by
  intro h
  refine enter (by kernel_rfl) e64 (by kernel_rfl) rfl fun hok => ?_
  simp only [r64, initEnv_1]
  have ha1 : (lB a).length ≤ 1048576 := by unfold wBS at ha; omega
  have ha2 : ∀ i, i < (lB a).length → (lI ((lB a).getD i default).words).length ≤ 1048576 := fun i hi => by
    have h1 := sum_take_le ((lB a).map fun p => (lI p.words).length) (i + 1)
    rw [sum_take_succ (by simpa using hi)] at h1
    unfold wBS at ha
    have : (((lB a).map fun p => (lI p.words).length)).getD i 0 = (lI ((lB a).getD i default).words).length := by simp [hi]
    omega
  have hat : ∀ x ∈ [AV.int .i64 0, .nils], M.atom x = true := by simp [M.atom]
  (try (simp (disch := first | omega | (simp <;> omega) | fail) only [push_cast, ↓reduceIte, Nat.reduceEqDiff, Nat.reduceAdd, Nat.reduceMul, Nat.reduceSub, Nat.reduceLT, Int.reduceToNat]))
  refine T_for (lB a).length (fun i e h' => Pins e [(0, eBS a), (3, .sl h.length 0 2 (lB a).length (lB a).length), (4, .int .i64 i)] ∧ h.length < h'.length ∧ OwB h' h.length h.length 2 (lB a).length (fillF cBc (lB a) [.int .i64 0, .nils] i)) ?_ ?_
  · (try (simp (disch := first | omega | (simp <;> omega) | fail) only [push_cast, ↓reduceIte, Nat.reduceEqDiff, Nat.reduceAdd, Nat.reduceMul, Nat.reduceSub, Nat.reduceLT, Int.reduceToNat, fillF_0]))
    all_goals (try exact ⟨_, fun _ => False, by rw [cells_h0]; rfl, rows_len _ _, all_one_of (rows_atom hat), ow_self (rows_atom hat), fun _ h => h.elim⟩)
  rintro i e h' hi ⟨hp, hlt, ho⟩
  refine T_pins hp fun e => ?_
  (try (simp (disch := first | omega | (simp <;> omega) | fail) only [push_cast, ↓reduceIte, Nat.reduceEqDiff, Nat.reduceAdd, Nat.reduceMul, Nat.reduceSub, Nat.reduceLT, Int.reduceToNat]))
  first | refine goC_split (fun hc => ?_) (fun hc => ?_) | refine cnd_split (fun hc => ?_) (fun hc => ?_)
  · (try (simp only [decide_eq_true_eq, decide_eq_false_iff_not, Bool.not_eq_true', Bool.not_eq_false', Bool.and_eq_true, Bool.or_eq_true, Int.not_lt, Int.not_le] at hc)); (try (simp (disch := first | omega | (simp <;> omega) | fail) only [push_cast, ↓reduceIte, Nat.reduceEqDiff, Nat.reduceAdd, Nat.reduceMul, Nat.reduceSub, Nat.reduceLT, Int.reduceToNat]))
    have hi : i < (lB a).length := by omega
    refine (c_laws_toBits_o ((lB a).getD i default) (ha2 i hi)).use fun x t l hR how => ?_
    subst hR
    obtain ⟨b, rfl, how2⟩ := ow_bits how
    obtain ⟨cs, hcs, hcl, hput⟩ := ho.put (by omega) how2 hi rfl rfl
    have hnx := fillF_next cBc_len (z := [AV.int .i64 0, .nils]) rfl (d := default) hi (x := cB (cpB ((lB a).getD i default))) rfl
    rw [show cB ⟨((lB a).getD i default).size, some (lI ((lB a).getD i default).words)⟩ = cB (cpB ((lB a).getD i default)) from rfl, hnx] at hput
    (try (simp (disch := first | omega | (simp <;> omega) | fail) only [push_cast, ↓reduceIte, Nat.reduceEqDiff, Nat.reduceAdd, Nat.reduceMul, Nat.reduceSub, Nat.reduceLT, Int.reduceToNat, hcs, hcl]))
    all_goals (try exact ⟨by simp [wr]; omega, hput⟩)
    all_goals (try exact ⟨by omega, hput⟩)
  · (try (simp only [decide_eq_true_eq, decide_eq_false_iff_not, Bool.not_eq_true', Bool.not_eq_false', Bool.and_eq_true, Bool.or_eq_true, Int.not_lt, Int.not_le] at hc)); (try (simp (disch := first | omega | (simp <;> omega) | fail) only [push_cast, ↓reduceIte, Nat.reduceEqDiff, Nat.reduceAdd, Nat.reduceMul, Nat.reduceSub, Nat.reduceLT, Int.reduceToNat]))
    rw [fillF_all (by omega)] at ho
    have e1 : (lB a).flatMap cBc = ((lB a).map cpB).flatMap cB := by rw [List.flatMap_map]; rfl
    rw [e1] at ho
    refine ⟨_, ho.sl (Nat.le_refl _), ?_⟩
    simp [eBS]
theorem c_laws_toBitsS (a : Option (List Bt)) (ha : wBS a ≤ 1048576) : Fn Try.prog 64 [eBS a] (· = eBS (some ((lB a).map cpB))) := (c_laws_toBitsS_o a ha).fn

theorem c_laws_toBoolS_o (a : Option (List Bool)) (ha : (lO a).length ≤ 1048576) : FnO Try.prog 65 [eO a] (· = eO (some (lO a))) := by
  intro h
  refine enter (by kernel_rfl) e65 (by kernel_rfl) rfl fun hok => ?_
  simp only [r65, initEnv_1]
  (try (simp (disch := first | omega | (simp <;> omega) | fail) only [push_cast, ↓reduceIte, Nat.reduceEqDiff, Nat.reduceAdd, Nat.reduceMul, Nat.reduceSub, Nat.reduceLT, Int.reduceToNat]))
  refine T_for (lO a).length (fun i e h' => Pins e [(0, eO a), (3, .sl h.length 0 1 (lO a).length (lO a).length), (4, .int .i64 i)] ∧ h' = h ++ [some (.cells (fill .bool (lO a) (.bool false) i))]) ?_ ?_
  · (try (simp (disch := first | omega | (simp <;> omega) | fail) only [push_cast, ↓reduceIte, Nat.reduceEqDiff, Nat.reduceAdd, Nat.reduceMul, Nat.reduceSub, Nat.reduceLT, Int.reduceToNat, fill_0]))
  rintro i e h' hi ⟨hp, rfl⟩
  refine T_pins hp fun e => ?_
  (try (simp (disch := first | omega | (simp <;> omega) | fail) only [push_cast, ↓reduceIte, Nat.reduceEqDiff, Nat.reduceAdd, Nat.reduceMul, Nat.reduceSub, Nat.reduceLT, Int.reduceToNat]))
  first | refine goC_split (fun hc => ?_) (fun hc => ?_) | refine cnd_split (fun hc => ?_) (fun hc => ?_)
  · (try (simp only [decide_eq_true_eq, decide_eq_false_iff_not, Bool.not_eq_true', Bool.not_eq_false', Bool.and_eq_true, Bool.or_eq_true, Int.not_lt, Int.not_le] at hc)); (try (simp (disch := first | omega | (simp <;> omega) | fail) only [push_cast, ↓reduceIte, Nat.reduceEqDiff, Nat.reduceAdd, Nat.reduceMul, Nat.reduceSub, Nat.reduceLT, Int.reduceToNat]))
    (try (simp (disch := first | omega | (simp <;> omega) | fail) only [push_cast, ↓reduceIte, Nat.reduceEqDiff, Nat.reduceAdd, Nat.reduceMul, Nat.reduceSub, Nat.reduceLT, Int.reduceToNat, fill_len hi]))
    rw [fill_next (d := false) (by omega) rfl]
  · (try (simp only [decide_eq_true_eq, decide_eq_false_iff_not, Bool.not_eq_true', Bool.not_eq_false', Bool.and_eq_true, Bool.or_eq_true, Int.not_lt, Int.not_le] at hc)); (try (simp (disch := first | omega | (simp <;> omega) | fail) only [push_cast, ↓reduceIte, Nat.reduceEqDiff, Nat.reduceAdd, Nat.reduceMul, Nat.reduceSub, Nat.reduceLT, Int.reduceToNat]))
    rw [fill_all (by omega)]
    exact ⟨_, ow_map (fun _ => rfl) (by rw [cells_h0]; rfl) rfl (Nat.le_refl _), rfl⟩
theorem c_laws_toBoolS (a : Option (List Bool)) (ha : (lO a).length ≤ 1048576) : Fn Try.prog 65 [eO a] (· = eO (some (lO a))) := (c_laws_toBoolS_o a ha).fn

theorem c_laws_toSystem_o (s : Sy) (ha : wSy s ≤ 1048576) : FnO Try.prog 19 [eSy s] (· = eSy (cpSy s)) := by
  intro h
  refine enter (by kernel_rfl) e19 (by kernel_rfl) rfl fun hok => ?_
  simp only [r19, initEnv_1]
  (try (simp (disch := first | omega | (simp <;> omega) | fail) only [push_cast, ↓reduceIte, Nat.reduceEqDiff, Nat.reduceAdd, Nat.reduceMul, Nat.reduceSub, Nat.reduceLT, Int.reduceToNat]))
  refine (c_laws_toBitsS_o _ (by unfold wSy at ha; omega)).use fun x t l hR how => ?_
  subst hR
  obtain ⟨b1, rfl⟩ := Ow.sl1 (show Ow _ [x] [.ro 2 _ _] _ from how)
  (try (simp (disch := first | omega | (simp <;> omega) | fail) only [push_cast, ↓reduceIte, Nat.reduceEqDiff, Nat.reduceAdd, Nat.reduceMul, Nat.reduceSub, Nat.reduceLT, Int.reduceToNat]))
  refine (c_laws_toBoolS_o _ (by unfold wSy at ha; omega)).use fun x t l2 hR how2 => ?_
  subst hR
  obtain ⟨b2, rfl⟩ := Ow.sl1 (show Ow _ [x] [.ro 1 _ _] _ from how2)
  (try (simp (disch := first | omega | (simp <;> omega) | fail) only [push_cast, ↓reduceIte, Nat.reduceEqDiff, Nat.reduceAdd, Nat.reduceMul, Nat.reduceSub, Nat.reduceLT, Int.reduceToNat]))
  have A := how.keep (g' := h ++ ([some (AObj.cells [AV.int IntKind.i64 s.size, eBS s.rows, eO s.right]), some (.cells [AV.int .i64 s.size, .sl b1 0 2 ((lB s.rows).map cpB).length ((lB s.rows).map cpB).length, .sl b2 0 1 (lO s.right).length (lO s.right).length]), some (.cells [AV.int .i64 s.size, .sl b1 0 2 ((lB s.rows).map cpB).length ((lB s.rows).map cpB).length, .sl b2 0 1 (lO s.right).length (lO s.right).length])] ++ (l ++ l2))) fun c h1 h2 => by
    rw [List.append_assoc]
    refine tl_k2 rfl (by simpa using h1) (by simp at h2 ⊢; omega)
  have B := how2.keep (g' := h ++ ([some (AObj.cells [AV.int IntKind.i64 s.size, eBS s.rows, eO s.right]), some (.cells [AV.int .i64 s.size, .sl b1 0 2 ((lB s.rows).map cpB).length ((lB s.rows).map cpB).length, .sl b2 0 1 (lO s.right).length (lO s.right).length]), some (.cells [AV.int .i64 s.size, .sl b1 0 2 ((lB s.rows).map cpB).length ((lB s.rows).map cpB).length, .sl b2 0 1 (lO s.right).length (lO s.right).length])] ++ (l ++ l2))) fun c h1 h2 => by
    rw [List.append_assoc]
    exact tl_k (p := [_, _, _]) (q := [_, _, _]) rfl (by simp at h1 ⊢; omega)
  refine ⟨_, (Ow.atom rfl (Ow.two A B (fun c hc => ?_) (fun c hc => ⟨?_, fun hh => ?_⟩))).aggOf, rfl⟩
  · have := hc.1
    simp at this ⊢
    omega
  · have := hc.1
    simp at this ⊢
    omega
  · have h1 := hc.1
    have h2 := hh.2
    simp at h1 h2
    omega
theorem c_laws_toSystem (s : Sy) (ha : wSy s ≤ 1048576) : Fn Try.prog 19 [eSy s] (· = eSy (cpSy s)) := (c_laws_toSystem_o s ha).fn

theorem c_laws_eqIntS (a b : Option (List Int)) : Fn Try.prog 23 [eI a, eI b] (· = .bool (decide (lI a = lI b))) := by
  refine Fn.of free_bool fun h => ?_
  refine enter (by kernel_rfl) e23 (by kernel_rfl) rfl fun hok => ?_
  simp only [r23, initEnv_2]
  have ha := ok_eI (okV_0 hok)
  have hb := ok_eI (okV_1 hok)
  (try (simp (disch := first | omega | (simp <;> omega) | fail) only [push_cast, ↓reduceIte, Nat.reduceEqDiff, Nat.reduceAdd, Nat.reduceMul, Nat.reduceSub, Nat.reduceLT, Int.reduceToNat]))
  first | refine goC_split (fun hc => ?_) (fun hc => ?_) | refine cnd_split (fun hc => ?_) (fun hc => ?_)
  · (try (simp only [decide_eq_true_eq, decide_eq_false_iff_not, Bool.not_eq_true', Bool.not_eq_false', Bool.and_eq_true, Bool.or_eq_true, Int.not_lt, Int.not_le] at hc)); (try (simp (disch := first | omega | (simp <;> omega) | fail) only [push_cast, ↓reduceIte, Nat.reduceEqDiff, Nat.reduceAdd, Nat.reduceMul, Nat.reduceSub, Nat.reduceLT, Int.reduceToNat]))
    congr 1
    symm
    rw [decide_eq_false_iff_not]
    intro he
    rw [he] at hc
    exact hc rfl
  have hlen : (lI a).length = (lI b).length := by (try (simp only [decide_eq_true_eq, decide_eq_false_iff_not, Bool.not_eq_true', Bool.not_eq_false', Bool.and_eq_true, Bool.or_eq_true, Int.not_lt, Int.not_le] at hc)); (try (simp (disch := first | omega | (simp <;> omega) | fail) only [push_cast, ↓reduceIte, Nat.reduceEqDiff, Nat.reduceAdd, Nat.reduceMul, Nat.reduceSub, Nat.reduceLT, Int.reduceToNat])); omega
  (try (simp (disch := first | omega | (simp <;> omega) | fail) only [push_cast, ↓reduceIte, Nat.reduceEqDiff, Nat.reduceAdd, Nat.reduceMul, Nat.reduceSub, Nat.reduceLT, Int.reduceToNat]))
  refine T_for (lI a).length (fun i e h' => Pins e [(0, eI a), (1, eI b), (5, .int .i64 i)] ∧ h' = h ∧ (lI a).take i = (lI b).take i) ?_ ?_
  · (try (simp (disch := first | omega | (simp <;> omega) | fail) only [push_cast, ↓reduceIte, Nat.reduceEqDiff, Nat.reduceAdd, Nat.reduceMul, Nat.reduceSub, Nat.reduceLT, Int.reduceToNat]))
    simp
  rintro i e h' hi ⟨hp, rfl, he⟩
  refine T_pins hp fun e => ?_
  (try (simp (disch := first | omega | (simp <;> omega) | fail) only [push_cast, ↓reduceIte, Nat.reduceEqDiff, Nat.reduceAdd, Nat.reduceMul, Nat.reduceSub, Nat.reduceLT, Int.reduceToNat]))
  first | refine goC_split (fun hc => ?_) (fun hc => ?_) | refine cnd_split (fun hc => ?_) (fun hc => ?_)
  · (try (simp only [decide_eq_true_eq, decide_eq_false_iff_not, Bool.not_eq_true', Bool.not_eq_false', Bool.and_eq_true, Bool.or_eq_true, Int.not_lt, Int.not_le] at hc)); (try (simp (disch := first | omega | (simp <;> omega) | fail) only [push_cast, ↓reduceIte, Nat.reduceEqDiff, Nat.reduceAdd, Nat.reduceMul, Nat.reduceSub, Nat.reduceLT, Int.reduceToNat]))
    have hi : i < (lI a).length := by omega
    (try (simp (disch := first | omega | (simp <;> omega) | fail) only [push_cast, ↓reduceIte, Nat.reduceEqDiff, Nat.reduceAdd, Nat.reduceMul, Nat.reduceSub, Nat.reduceLT, Int.reduceToNat]))
    first | refine goC_split (fun hc => ?_) (fun hc => ?_) | refine cnd_split (fun hc => ?_) (fun hc => ?_)
    · (try (simp only [decide_eq_true_eq, decide_eq_false_iff_not, Bool.not_eq_true', Bool.not_eq_false', Bool.and_eq_true, Bool.or_eq_true, Int.not_lt, Int.not_le] at hc)); (try (simp (disch := first | omega | (simp <;> omega) | fail) only [push_cast, ↓reduceIte, Nat.reduceEqDiff, Nat.reduceAdd, Nat.reduceMul, Nat.reduceSub, Nat.reduceLT, Int.reduceToNat]))
      congr 1
      symm
      rw [decide_eq_false_iff_not]
      intro he
      rw [he] at hc
      exact hc rfl
    · (try (simp only [decide_eq_true_eq, decide_eq_false_iff_not, Bool.not_eq_true', Bool.not_eq_false', Bool.and_eq_true, Bool.or_eq_true, Int.not_lt, Int.not_le] at hc)); (try (simp (disch := first | omega | (simp <;> omega) | fail) only [push_cast, ↓reduceIte, Nat.reduceEqDiff, Nat.reduceAdd, Nat.reduceMul, Nat.reduceSub, Nat.reduceLT, Int.reduceToNat]))
      have h1 : i < (lI b).length := by omega
      simp [hi, h1] at hc
      rw [List.take_add_one, List.take_add_one, he]
      simp [hi, h1, hc]
  · (try (simp only [decide_eq_true_eq, decide_eq_false_iff_not, Bool.not_eq_true', Bool.not_eq_false', Bool.and_eq_true, Bool.or_eq_true, Int.not_lt, Int.not_le] at hc)); (try (simp (disch := first | omega | (simp <;> omega) | fail) only [push_cast, ↓reduceIte, Nat.reduceEqDiff, Nat.reduceAdd, Nat.reduceMul, Nat.reduceSub, Nat.reduceLT, Int.reduceToNat]))
    have hi2 : i = (lI a).length := by omega
    congr 1
    symm
    rw [decide_eq_true_iff]
    rw [hi2, List.take_length] at he
    rw [he, hlen, List.take_length]

theorem c_laws_eqBits (b c : Bt) : Fn Try.prog 35 [eB b, eB c] (· = .bool (decide (b.size = c.size) && decide (lI b.words = lI c.words))) := by
  refine Fn.of free_bool fun h => ?_
  refine enter (by kernel_rfl) e35 (by kernel_rfl) rfl fun hok => ?_
  simp only [r35, initEnv_2]
  (try (simp (disch := first | omega | (simp <;> omega) | fail) only [push_cast, ↓reduceIte, Nat.reduceEqDiff, Nat.reduceAdd, Nat.reduceMul, Nat.reduceSub, Nat.reduceLT, Int.reduceToNat]))
  first | refine goC_split (fun hc => ?_) (fun hc => ?_) | refine cnd_split (fun hc => ?_) (fun hc => ?_)
  · (try (simp only [decide_eq_true_eq, decide_eq_false_iff_not, Bool.not_eq_true', Bool.not_eq_false', Bool.and_eq_true, Bool.or_eq_true, Int.not_lt, Int.not_le] at hc)); (try (simp (disch := first | omega | (simp <;> omega) | fail) only [push_cast, ↓reduceIte, Nat.reduceEqDiff, Nat.reduceAdd, Nat.reduceMul, Nat.reduceSub, Nat.reduceLT, Int.reduceToNat]))
  (try (simp only [decide_eq_true_eq, decide_eq_false_iff_not, Bool.not_eq_true', Bool.not_eq_false', Bool.and_eq_true, Bool.or_eq_true, Int.not_lt, Int.not_le] at hc)); (try (simp (disch := first | omega | (simp <;> omega) | fail) only [push_cast, ↓reduceIte, Nat.reduceEqDiff, Nat.reduceAdd, Nat.reduceMul, Nat.reduceSub, Nat.reduceLT, Int.reduceToNat]))
  refine (c_laws_eqIntS _ _).call ?_
  cases he : decide (lI b.words = lI c.words)
  · (try (simp (disch := first | omega | (simp <;> omega) | fail) only [push_cast, ↓reduceIte, Nat.reduceEqDiff, Nat.reduceAdd, Nat.reduceMul, Nat.reduceSub, Nat.reduceLT, Int.reduceToNat]))
    all_goals (try simp [hc])
  · (try (simp (disch := first | omega | (simp <;> omega) | fail) only [push_cast, ↓reduceIte, Nat.reduceEqDiff, Nat.reduceAdd, Nat.reduceMul, Nat.reduceSub, Nat.reduceLT, Int.reduceToNat]))
    all_goals (try simp [hc])

theorem c_laws_eqBitsS (a b : Option (List Bt)) : Fn Try.prog 40 [eBS a, eBS b] (· = .bool (sameBS (lB a) (lB b))) := by
  refine Fn.of free_bool fun h => ?_
  refine enter (by kernel_rfl) e40 (by kernel_rfl) rfl fun hok => ?_
  simp only [r40, initEnv_2]
  have ha := ok_eBS (okV_0 hok)
  have hb := ok_eBS (okV_1 hok)
  (try (simp (disch := first | omega | (simp <;> omega) | fail) only [push_cast, ↓reduceIte, Nat.reduceEqDiff, Nat.reduceAdd, Nat.reduceMul, Nat.reduceSub, Nat.reduceLT, Int.reduceToNat]))
  unfold sameBS
  first | refine goC_split (fun hc => ?_) (fun hc => ?_) | refine cnd_split (fun hc => ?_) (fun hc => ?_)
  · (try (simp only [decide_eq_true_eq, decide_eq_false_iff_not, Bool.not_eq_true', Bool.not_eq_false', Bool.and_eq_true, Bool.or_eq_true, Int.not_lt, Int.not_le] at hc)); (try (simp (disch := first | omega | (simp <;> omega) | fail) only [push_cast, ↓reduceIte, Nat.reduceEqDiff, Nat.reduceAdd, Nat.reduceMul, Nat.reduceSub, Nat.reduceLT, Int.reduceToNat]))
  have hlen : ((lB a).length : Int) = (lB b).length := by (try (simp only [decide_eq_true_eq, decide_eq_false_iff_not, Bool.not_eq_true', Bool.not_eq_false', Bool.and_eq_true, Bool.or_eq_true, Int.not_lt, Int.not_le] at hc)); (try (simp (disch := first | omega | (simp <;> omega) | fail) only [push_cast, ↓reduceIte, Nat.reduceEqDiff, Nat.reduceAdd, Nat.reduceMul, Nat.reduceSub, Nat.reduceLT, Int.reduceToNat]))
  (try (simp (disch := first | omega | (simp <;> omega) | fail) only [push_cast, ↓reduceIte, Nat.reduceEqDiff, Nat.reduceAdd, Nat.reduceMul, Nat.reduceSub, Nat.reduceLT, Int.reduceToNat]))
  refine T_for (lB a).length (fun i e h' => Pins e [(0, eBS a), (1, eBS b), (5, .int .i64 i)] ∧ h' = h ∧ sameFromB (lB a) (lB b) i = true) ?_ ?_
  · (try (simp (disch := first | omega | (simp <;> omega) | fail) only [push_cast, ↓reduceIte, Nat.reduceEqDiff, Nat.reduceAdd, Nat.reduceMul, Nat.reduceSub, Nat.reduceLT, Int.reduceToNat]))
    simp [sameFromB]
  rintro i e h' hi ⟨hp, rfl, he⟩
  refine T_pins hp fun e => ?_
  (try (simp (disch := first | omega | (simp <;> omega) | fail) only [push_cast, ↓reduceIte, Nat.reduceEqDiff, Nat.reduceAdd, Nat.reduceMul, Nat.reduceSub, Nat.reduceLT, Int.reduceToNat]))
  first | refine goC_split (fun hc => ?_) (fun hc => ?_) | refine cnd_split (fun hc => ?_) (fun hc => ?_)
  · (try (simp only [decide_eq_true_eq, decide_eq_false_iff_not, Bool.not_eq_true', Bool.not_eq_false', Bool.and_eq_true, Bool.or_eq_true, Int.not_lt, Int.not_le] at hc)); (try (simp (disch := first | omega | (simp <;> omega) | fail) only [push_cast, ↓reduceIte, Nat.reduceEqDiff, Nat.reduceAdd, Nat.reduceMul, Nat.reduceSub, Nat.reduceLT, Int.reduceToNat]))
    have hi : i < (lB a).length := by omega
    (try (simp (disch := first | omega | (simp <;> omega) | fail) only [push_cast, ↓reduceIte, Nat.reduceEqDiff, Nat.reduceAdd, Nat.reduceMul, Nat.reduceSub, Nat.reduceLT, Int.reduceToNat]))
    refine (c_laws_eqBits ((lB a).getD i default) ((lB b).getD i default)).call ?_
    have hn : sameFromB (lB a) (lB b) (i + 1) = sameB ((lB a).getD i default) ((lB b).getD i default) := by simp [sameFromB, he]
    unfold sameB at hn
    rw [← hn]
    cases hk : sameFromB (lB a) (lB b) (i + 1)
    · (try (simp (disch := first | omega | (simp <;> omega) | fail) only [push_cast, ↓reduceIte, Nat.reduceEqDiff, Nat.reduceAdd, Nat.reduceMul, Nat.reduceSub, Nat.reduceLT, Int.reduceToNat]))
      exact (sameFromB_false (by omega) hk).symm
    · (try (simp (disch := first | omega | (simp <;> omega) | fail) only [push_cast, ↓reduceIte, Nat.reduceEqDiff, Nat.reduceAdd, Nat.reduceMul, Nat.reduceSub, Nat.reduceLT, Int.reduceToNat]))
      exact hk
  · (try (simp only [decide_eq_true_eq, decide_eq_false_iff_not, Bool.not_eq_true', Bool.not_eq_false', Bool.and_eq_true, Bool.or_eq_true, Int.not_lt, Int.not_le] at hc)); (try (simp (disch := first | omega | (simp <;> omega) | fail) only [push_cast, ↓reduceIte, Nat.reduceEqDiff, Nat.reduceAdd, Nat.reduceMul, Nat.reduceSub, Nat.reduceLT, Int.reduceToNat]))
    have : i = (lB a).length := by omega
    subst this
    exact he.symm

theorem c_laws_eqBoolS (a b : Option (List Bool)) : Fn Try.prog 70 [eO a, eO b] (· = .bool (decide (lO a = lO b))) := by
  refine Fn.of free_bool fun h => ?_
  refine enter (by kernel_rfl) e70 (by kernel_rfl) rfl fun hok => ?_
  simp only [r70, initEnv_2]
  have ha := ok_eO (okV_0 hok)
  have hb := ok_eO (okV_1 hok)
  (try (simp (disch := first | omega | (simp <;> omega) | fail) only [push_cast, ↓reduceIte, Nat.reduceEqDiff, Nat.reduceAdd, Nat.reduceMul, Nat.reduceSub, Nat.reduceLT, Int.reduceToNat]))
  first | refine goC_split (fun hc => ?_) (fun hc => ?_) | refine cnd_split (fun hc => ?_) (fun hc => ?_)
  · (try (simp only [decide_eq_true_eq, decide_eq_false_iff_not, Bool.not_eq_true', Bool.not_eq_false', Bool.and_eq_true, Bool.or_eq_true, Int.not_lt, Int.not_le] at hc)); (try (simp (disch := first | omega | (simp <;> omega) | fail) only [push_cast, ↓reduceIte, Nat.reduceEqDiff, Nat.reduceAdd, Nat.reduceMul, Nat.reduceSub, Nat.reduceLT, Int.reduceToNat]))
    congr 1
    symm
    rw [decide_eq_false_iff_not]
    intro he
    rw [he] at hc
    exact hc rfl
  have hlen : (lO a).length = (lO b).length := by (try (simp only [decide_eq_true_eq, decide_eq_false_iff_not, Bool.not_eq_true', Bool.not_eq_false', Bool.and_eq_true, Bool.or_eq_true, Int.not_lt, Int.not_le] at hc)); (try (simp (disch := first | omega | (simp <;> omega) | fail) only [push_cast, ↓reduceIte, Nat.reduceEqDiff, Nat.reduceAdd, Nat.reduceMul, Nat.reduceSub, Nat.reduceLT, Int.reduceToNat])); omega
  (try (simp (disch := first | omega | (simp <;> omega) | fail) only [push_cast, ↓reduceIte, Nat.reduceEqDiff, Nat.reduceAdd, Nat.reduceMul, Nat.reduceSub, Nat.reduceLT, Int.reduceToNat]))
  refine T_for (lO a).length (fun i e h' => Pins e [(0, eO a), (1, eO b), (5, .int .i64 i)] ∧ h' = h ∧ (lO a).take i = (lO b).take i) ?_ ?_
  · (try (simp (disch := first | omega | (simp <;> omega) | fail) only [push_cast, ↓reduceIte, Nat.reduceEqDiff, Nat.reduceAdd, Nat.reduceMul, Nat.reduceSub, Nat.reduceLT, Int.reduceToNat]))
    simp
  rintro i e h' hi ⟨hp, rfl, he⟩
  refine T_pins hp fun e => ?_
  (try (simp (disch := first | omega | (simp <;> omega) | fail) only [push_cast, ↓reduceIte, Nat.reduceEqDiff, Nat.reduceAdd, Nat.reduceMul, Nat.reduceSub, Nat.reduceLT, Int.reduceToNat]))
  first | refine goC_split (fun hc => ?_) (fun hc => ?_) | refine cnd_split (fun hc => ?_) (fun hc => ?_)
  · (try (simp only [decide_eq_true_eq, decide_eq_false_iff_not, Bool.not_eq_true', Bool.not_eq_false', Bool.and_eq_true, Bool.or_eq_true, Int.not_lt, Int.not_le] at hc)); (try (simp (disch := first | omega | (simp <;> omega) | fail) only [push_cast, ↓reduceIte, Nat.reduceEqDiff, Nat.reduceAdd, Nat.reduceMul, Nat.reduceSub, Nat.reduceLT, Int.reduceToNat]))
    have hi : i < (lO a).length := by omega
    (try (simp (disch := first | omega | (simp <;> omega) | fail) only [push_cast, ↓reduceIte, Nat.reduceEqDiff, Nat.reduceAdd, Nat.reduceMul, Nat.reduceSub, Nat.reduceLT, Int.reduceToNat]))
    first | refine goC_split (fun hc => ?_) (fun hc => ?_) | refine cnd_split (fun hc => ?_) (fun hc => ?_)
    · (try (simp only [decide_eq_true_eq, decide_eq_false_iff_not, Bool.not_eq_true', Bool.not_eq_false', Bool.and_eq_true, Bool.or_eq_true, Int.not_lt, Int.not_le] at hc)); (try (simp (disch := first | omega | (simp <;> omega) | fail) only [push_cast, ↓reduceIte, Nat.reduceEqDiff, Nat.reduceAdd, Nat.reduceMul, Nat.reduceSub, Nat.reduceLT, Int.reduceToNat]))
      congr 1
      symm
      rw [decide_eq_false_iff_not]
      intro he
      rw [he] at hc
      first | exact hc rfl | simp at hc
    · (try (simp only [decide_eq_true_eq, decide_eq_false_iff_not, Bool.not_eq_true', Bool.not_eq_false', Bool.and_eq_true, Bool.or_eq_true, Int.not_lt, Int.not_le] at hc)); (try (simp (disch := first | omega | (simp <;> omega) | fail) only [push_cast, ↓reduceIte, Nat.reduceEqDiff, Nat.reduceAdd, Nat.reduceMul, Nat.reduceSub, Nat.reduceLT, Int.reduceToNat]))
      have h1 : i < (lO b).length := by omega
      simp [hi, h1] at hc
      rw [List.take_add_one, List.take_add_one, he]
      simp [hi, h1, hc]
  · (try (simp only [decide_eq_true_eq, decide_eq_false_iff_not, Bool.not_eq_true', Bool.not_eq_false', Bool.and_eq_true, Bool.or_eq_true, Int.not_lt, Int.not_le] at hc)); (try (simp (disch := first | omega | (simp <;> omega) | fail) only [push_cast, ↓reduceIte, Nat.reduceEqDiff, Nat.reduceAdd, Nat.reduceMul, Nat.reduceSub, Nat.reduceLT, Int.reduceToNat]))
    have hi2 : i = (lO a).length := by omega
    congr 1
    symm
    rw [decide_eq_true_iff]
    rw [hi2, List.take_length] at he
    rw [he, hlen, List.take_length]

theorem c_laws_eqSystem (s t : Sy) : Fn Try.prog 22 [eSy s, eSy t] (· = .bool (decide (s.size = t.size) && (sameBS (lB s.rows) (lB t.rows) && decide (lO s.right = lO t.right)))) := by
  refine Fn.of free_bool fun h => ?_
  refine enter (by kernel_rfl) e22 (by kernel_rfl) rfl fun hok => ?_
  simp only [r22, initEnv_2]
  (try (simp (disch := first | omega | (simp <;> omega) | fail) only [push_cast, ↓reduceIte, Nat.reduceEqDiff, Nat.reduceAdd, Nat.reduceMul, Nat.reduceSub, Nat.reduceLT, Int.reduceToNat]))
  first | refine goC_split (fun hc => ?_) (fun hc => ?_) | refine cnd_split (fun hc => ?_) (fun hc => ?_)
  · (try (simp only [decide_eq_true_eq, decide_eq_false_iff_not, Bool.not_eq_true', Bool.not_eq_false', Bool.and_eq_true, Bool.or_eq_true, Int.not_lt, Int.not_le] at hc)); (try (simp (disch := first | omega | (simp <;> omega) | fail) only [push_cast, ↓reduceIte, Nat.reduceEqDiff, Nat.reduceAdd, Nat.reduceMul, Nat.reduceSub, Nat.reduceLT, Int.reduceToNat]))
  (try (simp only [decide_eq_true_eq, decide_eq_false_iff_not, Bool.not_eq_true', Bool.not_eq_false', Bool.and_eq_true, Bool.or_eq_true, Int.not_lt, Int.not_le] at hc)); (try (simp (disch := first | omega | (simp <;> omega) | fail) only [push_cast, ↓reduceIte, Nat.reduceEqDiff, Nat.reduceAdd, Nat.reduceMul, Nat.reduceSub, Nat.reduceLT, Int.reduceToNat]))
  refine (c_laws_eqBitsS _ _).call ?_
  cases hk : sameBS (lB s.rows) (lB t.rows)
  · (try (simp (disch := first | omega | (simp <;> omega) | fail) only [push_cast, ↓reduceIte, Nat.reduceEqDiff, Nat.reduceAdd, Nat.reduceMul, Nat.reduceSub, Nat.reduceLT, Int.reduceToNat]))
    all_goals (try simp)
  (try (simp (disch := first | omega | (simp <;> omega) | fail) only [push_cast, ↓reduceIte, Nat.reduceEqDiff, Nat.reduceAdd, Nat.reduceMul, Nat.reduceSub, Nat.reduceLT, Int.reduceToNat]))
  refine (c_laws_eqBoolS _ _).call ?_
  cases he : decide (lO s.right = lO t.right)
  · (try (simp (disch := first | omega | (simp <;> omega) | fail) only [push_cast, ↓reduceIte, Nat.reduceEqDiff, Nat.reduceAdd, Nat.reduceMul, Nat.reduceSub, Nat.reduceLT, Int.reduceToNat]))
    all_goals (try simp [hc])
  · (try (simp (disch := first | omega | (simp <;> omega) | fail) only [push_cast, ↓reduceIte, Nat.reduceEqDiff, Nat.reduceAdd, Nat.reduceMul, Nat.reduceSub, Nat.reduceLT, Int.reduceToNat]))
    all_goals (try simp [hc])

def marksI (k : Int) (n : Nat) : List Int := (List.range n).map fun i : Nat => k + (i : Int)
theorem marksI_len {k : Int} {n : Nat} : (marksI k n).length = n := by simp [marksI]
theorem marksI_get {k : Int} {n i : Nat} (hi : i < n) : (marksI k n).getD i 0 = k + (i : Int) := by simp [marksI, hi]
theorem marksI_succ {k : Int} {n : Nat} : marksI k (n + 1) = marksI k n ++ [k + (n : Int)] := by simp [marksI, List.range_succ]
def mkI (k : Int) (a : Option (List Int)) : Option (List Int) := a.map fun l => marksI k l.length
theorem lI_mkI {k : Int} {a : Option (List Int)} : lI (mkI k a) = marksI k (lI a).length := by cases a <;> rfl
theorem setL_next {α : Type} {f : α → AV} {m l : List α} {x : α} {i : Nat} (hm : m.length = i) (hi : i < l.length) : ((m ++ l.drop i).map f).set i (f x) = (m ++ [x] ++ l.drop (i + 1)).map f := by
  subst hm
  rw [List.drop_eq_getElem_cons hi]
  simp only [List.map_append, List.map_cons, List.map_nil, List.append_assoc, List.cons_append, List.nil_append]
  have := set_last (p := m.map f) (r := (l.drop (m.length + 1)).map f) (x := f l[m.length]) (y := f x)
  rw [List.length_map] at this
  exact this

theorem c_laws_markIntS (v : AV) (a : Option (List Int)) (G : Nat → Prop) (k : Int) (h : H) (hs : Ow h [v] [eI a] G) (hk : 0 ≤ k) (hk2 : k + (lI a).length ≤ 100000000) :
    Call Try.prog 29 [v, .int .i64 k] h G (fun x h' => x = .int .i64 (k + (lI a).length) ∧ Kp G h h' ∧ Ow h' [v] [eI (mkI k a)] G) := by
  cases a with
  | none =>
    have hv : v = .nils := hs.atomOf rfl
    subst hv
    refine enter (by kernel_rfl) e29 (by kernel_rfl) rfl fun hok => ?_
    simp only [r29, initEnv_2]
    (try (simp (disch := first | omega | (simp <;> omega) | fail) only [push_cast, ↓reduceIte, Nat.reduceEqDiff, Nat.reduceAdd, Nat.reduceMul, Nat.reduceSub, Nat.reduceLT, Int.reduceToNat]))
    refine T_for 0 (fun i e h' => Pins e [(0, .nils), (1, .int .i64 k), (5, .int .i64 0)] ∧ h' = h) ?_ ?_
    · (try (simp (disch := first | omega | (simp <;> omega) | fail) only [push_cast, ↓reduceIte, Nat.reduceEqDiff, Nat.reduceAdd, Nat.reduceMul, Nat.reduceSub, Nat.reduceLT, Int.reduceToNat]))
    rintro i e h' hi ⟨hp, rfl⟩
    refine T_pins hp fun e => ?_
    (try (simp (disch := first | omega | (simp <;> omega) | fail) only [push_cast, ↓reduceIte, Nat.reduceEqDiff, Nat.reduceAdd, Nat.reduceMul, Nat.reduceSub, Nat.reduceLT, Int.reduceToNat]))
    all_goals (try exact ⟨by simp [lI], Kp.refl, hs⟩)
  | some l =>
    obtain ⟨b, cs, F, rfl, hc, hcl, hb, hF, hin, hre⟩ := Ow.open_ (show Ow h [v] [.ro 1 (l.map (.int .i64)) l.length] G from hs)
    have hl0 : lI (some l) = l := rfl
    rw [hl0] at hk2 ⊢
    refine enter (by kernel_rfl) e29 (by kernel_rfl) rfl fun hok => ?_
    simp only [r29, initEnv_2]
    (try (simp (disch := first | omega | (simp <;> omega) | fail) only [push_cast, ↓reduceIte, Nat.reduceEqDiff, Nat.reduceAdd, Nat.reduceMul, Nat.reduceSub, Nat.reduceLT, Int.reduceToNat]))
    refine T_for l.length (fun i e h' => Pins e [(0, .sl b 0 1 l.length l.length), (1, .int .i64 (k + i)), (5, .int .i64 i)] ∧ Kp G h h' ∧ h'.cells b = some ((marksI k i ++ l.drop i).map (.int .i64))) ?_ ?_
    · have hcs : cs = l.map (.int .i64) := by
        refine List.ext_getElem? fun i => ?_
        by_cases hi : i < cs.length
        · have hi2 : i < (l.map (AV.int .i64)).length := by rw [hin.len]; exact hi
          obtain ⟨F2, _, h2, _⟩ := hin.focus (List.getElem?_eq_getElem hi) (List.getElem?_eq_getElem hi2)
          rw [List.getElem?_eq_getElem hi, List.getElem?_eq_getElem hi2]
          exact congrArg some (h2.atomOf (by simp [atom]))
        · rw [List.getElem?_eq_none (by omega), List.getElem?_eq_none (by rw [hin.len]; omega)]
      (try (simp (disch := first | omega | (simp <;> omega) | fail) only [push_cast, ↓reduceIte, Nat.reduceEqDiff, Nat.reduceAdd, Nat.reduceMul, Nat.reduceSub, Nat.reduceLT, Int.reduceToNat]))
      all_goals (try exact ⟨Kp.refl, by rw [hc, hcs]; simp [marksI]⟩)
      all_goals (try exact ⟨by simp, Kp.refl, by rw [hc, hcs]; simp [marksI]⟩)
    rintro i e h' hi ⟨hp, hkp, hc2⟩
    refine T_pins hp fun e => ?_
    have hpm : G b = True := by simp [hb]
    (try (simp (disch := first | omega | (simp <;> omega) | fail) only [push_cast, ↓reduceIte, Nat.reduceEqDiff, Nat.reduceAdd, Nat.reduceMul, Nat.reduceSub, Nat.reduceLT, Int.reduceToNat]))
    first | refine goC_split (fun hc => ?_) (fun hc => ?_) | refine cnd_split (fun hc => ?_) (fun hc => ?_)
    · (try (simp only [decide_eq_true_eq, decide_eq_false_iff_not, Bool.not_eq_true', Bool.not_eq_false', Bool.and_eq_true, Bool.or_eq_true, Int.not_lt, Int.not_le] at hc)); (try (simp (disch := first | omega | (simp <;> omega) | fail) only [push_cast, ↓reduceIte, Nat.reduceEqDiff, Nat.reduceAdd, Nat.reduceMul, Nat.reduceSub, Nat.reduceLT, Int.reduceToNat]))
      have hi2 : i < l.length := by omega
      have hset := setL_next (f := AV.int .i64) (m := marksI k i) (x := k + (i : Int)) marksI_len hi2
      rw [← marksI_succ] at hset
      have hln : ((marksI k i ++ l.drop i).map (AV.int .i64)).length = l.length := by
        simp [marksI_len]
        omega
      have hos : over ((marksI k i ++ l.drop i).map (AV.int .i64)) i [.int .i64 (k + (i : Int))] = (marksI k (i + 1) ++ l.drop (i + 1)).map (.int .i64) := by
        rw [over_set (by omega), hset]
      (try (simp (disch := first | omega | (simp <;> omega) | fail) only [push_cast, ↓reduceIte, Nat.reduceEqDiff, Nat.reduceAdd, Nat.reduceMul, Nat.reduceSub, Nat.reduceLT, Int.reduceToNat, hc2, hpm, hln, hos]))
      all_goals (try (refine ⟨by omega, ?_⟩))
      all_goals (try exact ⟨hkp.wr hb _, cells_wr2 (cells_lt hc2)⟩)
    · (try (simp only [decide_eq_true_eq, decide_eq_false_iff_not, Bool.not_eq_true', Bool.not_eq_false', Bool.and_eq_true, Bool.or_eq_true, Int.not_lt, Int.not_le] at hc)); (try (simp (disch := first | omega | (simp <;> omega) | fail) only [push_cast, ↓reduceIte, Nat.reduceEqDiff, Nat.reduceAdd, Nat.reduceMul, Nat.reduceSub, Nat.reduceLT, Int.reduceToNat]))
      have hie : i = l.length := by omega
      subst hie
      rw [List.drop_length, List.append_nil] at hc2
      have hfin : Ow h' [.sl b 0 1 l.length l.length] [eI (mkI k (some l))] G := by
        have := ow_map (h := h') (f := AV.int .i64) (G := G) (fun _ => rfl) hc2 (marksI_len) hb
        unfold mkI eI
        simpa [marksI_len] using this
      first | exact ⟨rfl, hkp, hfin⟩ | exact ⟨hkp, hfin⟩

def mkB (k : Int) : List Bt → List Bt
  | [] => []
  | b :: l => ⟨k, mkI (k + 1) b.words⟩ :: mkB (k + 1 + (lI b.words).length) l
def offB (l : List Bt) : Nat := (l.map fun b => 1 + (lI b.words).length).sum
theorem mkB_len : ∀ {k : Int} {l : List Bt}, (mkB k l).length = l.length
  | _, [] => rfl
  | _, b :: l => by simp [mkB, mkB_len]
theorem mkB_app : ∀ {k : Int} {l : List Bt} {b : Bt}, mkB k (l ++ [b]) = mkB k l ++ [⟨k + offB l, mkI (k + offB l + 1) b.words⟩]
  | k, [], b => by simp [mkB, offB]
  | k, a :: l, b => by
    rw [List.cons_append, mkB, mkB_app, mkB, List.cons_append]
    have e : k + 1 + ((lI a.words).length : Int) + (offB l : Int) = k + (offB (a :: l) : Int) := by
      simp only [offB, List.map_cons, List.sum_cons]
      omega
    rw [e]
theorem offB_take {l : List Bt} {i : Nat} (hi : i < l.length) : offB (l.take (i + 1)) = offB (l.take i) + (1 + (lI (l.getD i default).words).length) := by
  unfold offB
  rw [List.map_take, List.map_take, sum_take_succ (by simpa using hi)]
  simp [hi]
theorem offB_le (l : List Bt) (i : Nat) : offB (l.take i) ≤ offB l := by
  unfold offB
  rw [List.map_take]
  exact sum_take_le _ i
def mkU (k : Int) (l : List Bt) (i : Nat) : List Bt := mkB k (l.take i) ++ l.drop i
theorem mkU_len {k : Int} {l : List Bt} {i : Nat} : (mkU k l i).length = l.length := by
  simp [mkU, mkB_len]
  omega
theorem mkU_get {k : Int} {l : List Bt} {i : Nat} (hi : i < l.length) : (mkU k l i).getD i default = l.getD i default := by
  unfold mkU
  have h1 : (mkB k (l.take i)).length = i := by
    rw [mkB_len, List.length_take]
    omega
  rw [List.getD_eq_getElem?_getD, List.getElem?_append_right (by omega), h1, Nat.sub_self, List.getElem?_drop]
  simp
theorem mkU_succ {k : Int} {l : List Bt} {i : Nat} (hi : i < l.length) : mkU k l (i + 1) = (mkU k l i).set i ⟨k + offB (l.take i), mkI (k + offB (l.take i) + 1) (l.getD i default).words⟩ := by
  have h1 : (mkB k (l.take i)).length = i := by
    rw [mkB_len, List.length_take]
    omega
  have ht : l.take (i + 1) = l.take i ++ [l.getD i default] := by
    rw [List.take_add_one]
    simp [hi]
  have hd : l.drop i = l.getD i default :: l.drop (i + 1) := by
    rw [List.drop_eq_getElem_cons hi]
    simp [hi]
  unfold mkU
  rw [ht, mkB_app, hd, List.set_append_right _ _ (by omega), h1, Nat.sub_self]
  simp
theorem flatB_set : ∀ {L : List Bt} {i : Nat} {z : Int} {w : Option (List Int)}, i < L.length → ((L.flatMap cB).set (i * 2) (.int .i64 z)).set (i * 2 + 1) (eI w) = (L.set i ⟨z, w⟩).flatMap cB
  | [], i, z, w, hi => by simp at hi
  | p :: L, 0, z, w, _ => by simp [cB]
  | p :: L, i + 1, z, w, hi => by
    have ih := flatB_set (L := L) (i := i) (z := z) (w := w) (by simpa using hi)
    have e2 : (i + 1) * 2 = 2 + i * 2 := by omega
    have e3 : 2 + i * 2 + 1 = 2 + (i * 2 + 1) := by omega
    rw [List.flatMap_cons, e2, e3, List.set_append_right _ _ (by rw [cB_len]; omega), List.set_append_right _ _ (by rw [cB_len]; omega), cB_len, Nat.add_sub_cancel_left, Nat.add_sub_cancel_left, ih]
    simp
theorem flatB_one {L : List Bt} : (L.flatMap cB).all one = true := by
  rw [List.all_eq_true]
  intro c hc
  obtain ⟨p, _, hp⟩ := List.mem_flatMap.1 hc
  simp only [cB, List.mem_cons, List.not_mem_nil, or_false] at hp
  rcases hp with rfl | rfl
  · rfl
  · exact one_eI

theorem c_laws_markBitsS (v : AV) (a : Option (List Bt)) (G : Nat → Prop) (k : Int) (h : H) (hs : Ow h [v] [eBS a] G) (hk : 0 ≤ k) (hk2 : k + offB (lB a) ≤ 100000000) :
    Call Try.prog 41 [v, .int .i64 k] h G (fun x h' => x = .int .i64 (k + offB (lB a)) ∧ Kp G h h' ∧ Ow h' [v] [eBS (a.map (mkB k))] G) := by
  cases a with
  | none =>
    have hv : v = .nils := hs.atomOf rfl
    subst hv
    refine enter (by kernel_rfl) e41 (by kernel_rfl) rfl fun hok => ?_
    simp only [r41, initEnv_2]
    (try (simp (disch := first | omega | (simp <;> omega) | fail) only [push_cast, ↓reduceIte, Nat.reduceEqDiff, Nat.reduceAdd, Nat.reduceMul, Nat.reduceSub, Nat.reduceLT, Int.reduceToNat]))
    refine T_for 0 (fun i e h' => Pins e [(0, .nils), (1, .int .i64 k), (5, .int .i64 0)] ∧ h' = h) ?_ ?_
    · (try (simp (disch := first | omega | (simp <;> omega) | fail) only [push_cast, ↓reduceIte, Nat.reduceEqDiff, Nat.reduceAdd, Nat.reduceMul, Nat.reduceSub, Nat.reduceLT, Int.reduceToNat]))
    rintro i e h' hi ⟨hp, rfl⟩
    refine T_pins hp fun e => ?_
    (try (simp (disch := first | omega | (simp <;> omega) | fail) only [push_cast, ↓reduceIte, Nat.reduceEqDiff, Nat.reduceAdd, Nat.reduceMul, Nat.reduceSub, Nat.reduceLT, Int.reduceToNat]))
    all_goals (try exact ⟨by simp [lB, offB], Kp.refl, hs⟩)
  | some l =>
    obtain ⟨b, cs0, F, rfl, hc0, hcl, hb, hF, hin0, hre⟩ := Ow.open_ (show Ow h [v] [.ro 2 (l.flatMap cB) l.length] G from hs)
    have hl0 : lB (some l) = l := rfl
    rw [hl0] at hk2 ⊢
    refine enter (by kernel_rfl) e41 (by kernel_rfl) rfl fun hok => ?_
    simp only [r41, initEnv_2]
    have hll : l.length ≤ offB l := by
      unfold offB
      clear hs hre hcl hin0 hok hk2 hl0
      induction l with
      | nil => simp
      | cons a l ih =>
        simp only [List.length_cons, List.map_cons, List.sum_cons]
        omega
    (try (simp (disch := first | omega | (simp <;> omega) | fail) only [push_cast, ↓reduceIte, Nat.reduceEqDiff, Nat.reduceAdd, Nat.reduceMul, Nat.reduceSub, Nat.reduceLT, Int.reduceToNat]))
    refine T_for l.length (fun i e h' => Pins e [(0, .sl b 0 2 l.length l.length), (1, .int .i64 (k + offB (l.take i))), (5, .int .i64 i)] ∧ Kp G h h' ∧ ∃ cs, h'.cells b = some cs ∧ Ow h' cs ((mkU k l i).flatMap cB) F) ?_ ?_
    · (try (simp (disch := first | omega | (simp <;> omega) | fail) only [push_cast, ↓reduceIte, Nat.reduceEqDiff, Nat.reduceAdd, Nat.reduceMul, Nat.reduceSub, Nat.reduceLT, Int.reduceToNat]))
      all_goals (try exact ⟨by simp [offB], Kp.refl, cs0, hc0, by simpa [mkU, mkB] using hin0⟩)
    rintro i e h' hi ⟨hp, hkp, cs, hc2, hin⟩
    refine T_pins hp fun e => ?_
    have hpm : G b = True := by simp [hb]
    have hlen : cs.length = l.length * 2 := by
      have := hin.len
      rw [flatMap_len cB_len, mkU_len] at this
      omega
    (try (simp (disch := first | omega | (simp <;> omega) | fail) only [push_cast, ↓reduceIte, Nat.reduceEqDiff, Nat.reduceAdd, Nat.reduceMul, Nat.reduceSub, Nat.reduceLT, Int.reduceToNat]))
    first | refine goC_split (fun hc => ?_) (fun hc => ?_) | refine cnd_split (fun hc => ?_) (fun hc => ?_)
    · (try (simp only [decide_eq_true_eq, decide_eq_false_iff_not, Bool.not_eq_true', Bool.not_eq_false', Bool.and_eq_true, Bool.or_eq_true, Int.not_lt, Int.not_le] at hc)); (try (simp (disch := first | omega | (simp <;> omega) | fail) only [push_cast, ↓reduceIte, Nat.reduceEqDiff, Nat.reduceAdd, Nat.reduceMul, Nat.reduceSub, Nat.reduceLT, Int.reduceToNat]))
      have hi2 : i < l.length := by omega
      have hof := offB_take hi2
      have hole := offB_le l (i + 1)
      have hsu := mkU_succ (k := k) hi2
      obtain ⟨K, hK⟩ : ∃ K, K = k + (offB (l.take i) : Int) := ⟨_, rfl⟩
      rw [← hK] at hsu
      have hmu : i < (mkU k l i).length := by rw [mkU_len]; exact hi2
      have hg := mkU_get (k := k) hi2
      have ht0 : ((mkU k l i).flatMap cB)[i * 2]? = some (.int .i64 (l.getD i default).size) := by rw [← hg]; exact get_B0 hmu
      have ht1 : ((mkU k l i).flatMap cB)[i * 2 + 1]? = some (eI (l.getD i default).words) := by rw [← hg]; exact get_B1 hmu
      obtain ⟨y0, hy0⟩ : ∃ y, cs[i * 2]? = some y := ⟨_, List.getElem?_eq_getElem (by omega)⟩
      obtain ⟨w, hw⟩ : ∃ y, cs[i * 2 + 1]? = some y := ⟨_, List.getElem?_eq_getElem (by omega)⟩
      have hos : over cs (i * 2) [.int .i64 K] = cs.set (i * 2) (.int .i64 K) := over_set (by omega)
      have hw2 : (cs.set (i * 2) (.int .i64 K))[i * 2 + 1]? = some w := by
        rw [List.getElem?_set_ne (by omega)]
        exact hw
      have hbl := cells_lt hc2
      have hcw : H.cells (wr h' b (cs.set (i * 2) (.int .i64 K))) b = some (cs.set (i * 2) (.int .i64 K)) := cells_wr2 hbl
      obtain ⟨F0, _, _, p3⟩ := hin.focus hy0 ht0
      have hin1 := p3 (wr h' b (cs.set (i * 2) (.int .i64 K))) (.int .i64 K) (.int .i64 K) (.atom rfl .nil) (fun c hc _ => by
        unfold wr
        rw [List.getElem?_set_ne (Ne.symm (hF c hc).2)])
      obtain ⟨F1, r1, r2, r3⟩ := hin1.focus (i := i * 2 + 1) hw2 (by rw [List.getElem?_set_ne (by omega)]; exact ht1)
      have hln2 : i * 2 + 1 ≤ cs.length := by omega
      (try (simp (disch := first | omega | (simp <;> omega) | fail) only [push_cast, ↓reduceIte, Nat.reduceEqDiff, Nat.reduceAdd, Nat.reduceMul, Nat.reduceSub, Nat.reduceLT, Int.reduceToNat, ← hK, hc2, hpm, hos, hln2, hcw, hw2]))
      refine (c_laws_markIntS w (l.getD i default).words F1 (K + 1) _ r2 (by omega) (by omega)).mono (fun x h2 hx => ?_) (fun c hc hF1 => Or.inl (hF c (r1 c hF1)).1)
      obtain ⟨rfl, hkp2, ho⟩ := hx
      have hin2 := r3 h2 w _ ho (fun c hc hn => hkp2.2 c hn)
      rw [set_same hw2, flatB_set hmu, ← hsu] at hin2
      have hcb2 : h2.cells b = some (cs.set (i * 2) (.int .i64 K)) := cells_keep_ (hkp2.2 b fun hf => (hF b (r1 b hf)).2 rfl) hcw
      have hkp3 : Kp G h h2 := (hkp.wr hb _).trans (hkp2.mono fun c hc => (hF c (r1 c hc)).1)
      (try (simp (disch := first | omega | (simp <;> omega) | fail) only [push_cast, ↓reduceIte, Nat.reduceEqDiff, Nat.reduceAdd, Nat.reduceMul, Nat.reduceSub, Nat.reduceLT, Int.reduceToNat]))
      all_goals (try exact ⟨by omega, hkp3, _, hcb2, hin2⟩)
      all_goals (try exact ⟨hkp3, _, hcb2, hin2⟩)
    · (try (simp only [decide_eq_true_eq, decide_eq_false_iff_not, Bool.not_eq_true', Bool.not_eq_false', Bool.and_eq_true, Bool.or_eq_true, Int.not_lt, Int.not_le] at hc)); (try (simp (disch := first | omega | (simp <;> omega) | fail) only [push_cast, ↓reduceIte, Nat.reduceEqDiff, Nat.reduceAdd, Nat.reduceMul, Nat.reduceSub, Nat.reduceLT, Int.reduceToNat]))
      have hie : i = l.length := by omega
      subst hie
      rw [show mkU k l l.length = mkB k l by simp [mkU]] at hin
      have hfin : Ow h' [.sl b 0 2 l.length l.length] [eBS ((some l).map (mkB k))] G := by
        have := hre h' cs ((mkB k l).flatMap cB) hc2 hin hlen flatB_one
        simpa [eBS, mkB_len] using this
      (try (simp (disch := first | omega | (simp <;> omega) | fail) only [push_cast, ↓reduceIte, Nat.reduceEqDiff, Nat.reduceAdd, Nat.reduceMul, Nat.reduceSub, Nat.reduceLT, Int.reduceToNat]))
      first | exact ⟨by simp, hkp, hfin⟩ | exact ⟨rfl, hkp, hfin⟩ | exact ⟨hkp, hfin⟩

theorem c_laws_markBoolS (v : AV) (a : Option (List Bool)) (G : Nat → Prop) (k : Int) (h : H) (hs : Ow h [v] [eO a] G) (hk : 0 ≤ k) (hk2 : k + (lO a).length ≤ 100000000) :
    Call Try.prog 74 [v, .int .i64 k] h G (fun x h' => x = .int .i64 (k + (lO a).length) ∧ Kp G h h') := by
  cases a with
  | none =>
    have hv : v = .nils := hs.atomOf rfl
    subst hv
    refine enter (by kernel_rfl) e74 (by kernel_rfl) rfl fun hok => ?_
    simp only [r74, initEnv_2]
    (try (simp (disch := first | omega | (simp <;> omega) | fail) only [push_cast, ↓reduceIte, Nat.reduceEqDiff, Nat.reduceAdd, Nat.reduceMul, Nat.reduceSub, Nat.reduceLT, Int.reduceToNat]))
    refine T_for 0 (fun i e h' => Pins e [(0, .nils), (1, .int .i64 k), (5, .int .i64 0)] ∧ h' = h) ?_ ?_
    · (try (simp (disch := first | omega | (simp <;> omega) | fail) only [push_cast, ↓reduceIte, Nat.reduceEqDiff, Nat.reduceAdd, Nat.reduceMul, Nat.reduceSub, Nat.reduceLT, Int.reduceToNat]))
    rintro i e h' hi ⟨hp, rfl⟩
    refine T_pins hp fun e => ?_
    (try (simp (disch := first | omega | (simp <;> omega) | fail) only [push_cast, ↓reduceIte, Nat.reduceEqDiff, Nat.reduceAdd, Nat.reduceMul, Nat.reduceSub, Nat.reduceLT, Int.reduceToNat]))
    all_goals (try exact ⟨by simp [lO], Kp.refl⟩)
  | some l =>
    obtain ⟨b, cs, F, rfl, hc, hcl, hb, hF, hin, hre⟩ := Ow.open_ (show Ow h [v] [.ro 1 (l.map .bool) l.length] G from hs)
    have hl0 : lO (some l) = l := rfl
    rw [hl0] at hk2 ⊢
    refine enter (by kernel_rfl) e74 (by kernel_rfl) rfl fun hok => ?_
    simp only [r74, initEnv_2]
    (try (simp (disch := first | omega | (simp <;> omega) | fail) only [push_cast, ↓reduceIte, Nat.reduceEqDiff, Nat.reduceAdd, Nat.reduceMul, Nat.reduceSub, Nat.reduceLT, Int.reduceToNat]))
    refine T_for l.length (fun i e h' => Pins e [(0, .sl b 0 1 l.length l.length), (1, .int .i64 (k + i)), (5, .int .i64 i)] ∧ Kp G h h' ∧ ∃ cs, h'.cells b = some cs ∧ cs.length = l.length) ?_ ?_
    · (try (simp (disch := first | omega | (simp <;> omega) | fail) only [push_cast, ↓reduceIte, Nat.reduceEqDiff, Nat.reduceAdd, Nat.reduceMul, Nat.reduceSub, Nat.reduceLT, Int.reduceToNat]))
      all_goals (try exact ⟨Kp.refl, cs, hc, by omega⟩)
      all_goals (try exact ⟨by simp, Kp.refl, cs, hc, by omega⟩)
    rintro i e h' hi ⟨hp, hkp, cs2, hc2, hcl2⟩
    refine T_pins hp fun e => ?_
    have hpm : G b = True := by simp [hb]
    (try (simp (disch := first | omega | (simp <;> omega) | fail) only [push_cast, ↓reduceIte, Nat.reduceEqDiff, Nat.reduceAdd, Nat.reduceMul, Nat.reduceSub, Nat.reduceLT, Int.reduceToNat]))
    first | refine goC_split (fun hc => ?_) (fun hc => ?_) | refine cnd_split (fun hc => ?_) (fun hc => ?_)
    · (try (simp only [decide_eq_true_eq, decide_eq_false_iff_not, Bool.not_eq_true', Bool.not_eq_false', Bool.and_eq_true, Bool.or_eq_true, Int.not_lt, Int.not_le] at hc)); (try (simp (disch := first | omega | (simp <;> omega) | fail) only [push_cast, ↓reduceIte, Nat.reduceEqDiff, Nat.reduceAdd, Nat.reduceMul, Nat.reduceSub, Nat.reduceLT, Int.reduceToNat]))
      have hi2 : i < l.length := by omega
      have hos : ∀ q, over cs2 i [.bool q] = cs2.set i (.bool q) := fun q => over_set (by omega)
      (try (simp (disch := first | omega | (simp <;> omega) | fail) only [push_cast, ↓reduceIte, Nat.reduceEqDiff, Nat.reduceAdd, Nat.reduceMul, Nat.reduceSub, Nat.reduceLT, Int.reduceToNat, hc2, hpm, hcl2, hos]))
      all_goals (try (refine ⟨by omega, ?_⟩))
      all_goals (try exact ⟨hkp.wr hb _, _, cells_wr2 (cells_lt hc2), by simp [hcl2]⟩)
      first | refine goC_split (fun hd => ?_) (fun hd => ?_) | refine cnd_split (fun hd => ?_) (fun hd => ?_)
      · (try (simp (disch := first | omega | (simp <;> omega) | fail) only [push_cast, ↓reduceIte, Nat.reduceEqDiff, Nat.reduceAdd, Nat.reduceMul, Nat.reduceSub, Nat.reduceLT, Int.reduceToNat, hc2, hpm, hcl2, hos]))
        all_goals (try exact ⟨by omega, hkp.wr hb _, _, cells_wr2 (cells_lt hc2), by simp [hcl2]⟩)
        all_goals (try exact ⟨hkp.wr hb _, _, cells_wr2 (cells_lt hc2), by simp [hcl2]⟩)
      · (try (simp (disch := first | omega | (simp <;> omega) | fail) only [push_cast, ↓reduceIte, Nat.reduceEqDiff, Nat.reduceAdd, Nat.reduceMul, Nat.reduceSub, Nat.reduceLT, Int.reduceToNat, hc2, hpm, hcl2, hos]))
        all_goals (try exact ⟨by omega, hkp.wr hb _, _, cells_wr2 (cells_lt hc2), by simp [hcl2]⟩)
        all_goals (try exact ⟨hkp.wr hb _, _, cells_wr2 (cells_lt hc2), by simp [hcl2]⟩)
    · (try (simp only [decide_eq_true_eq, decide_eq_false_iff_not, Bool.not_eq_true', Bool.not_eq_false', Bool.and_eq_true, Bool.or_eq_true, Int.not_lt, Int.not_le] at hc)); (try (simp (disch := first | omega | (simp <;> omega) | fail) only [push_cast, ↓reduceIte, Nat.reduceEqDiff, Nat.reduceAdd, Nat.reduceMul, Nat.reduceSub, Nat.reduceLT, Int.reduceToNat]))
      have hie : i = l.length := by omega
      subst hie
      first | exact ⟨rfl, hkp⟩ | exact hkp

theorem c_laws_markSystem (v : AV) (s : Sy) (G : Nat → Prop) (k : Int) (h : H) (hs : Ow h [v] [eSy s] G) (hG : ∀ c, G c → c < h.length) (hk : 0 ≤ k) (hk2 : k + offB (lB s.rows) + (lO s.right).length ≤ 100000000) :
    Call Try.prog 28 [v, .int .i64 k] h G (fun x h' => x = .int .i64 (k + offB (lB s.rows) + (lO s.right).length) ∧ Kq G h h') := by
  obtain ⟨cs, rfl, h1⟩ := Ow.openAgg (show Ow h [v] [.agg [.int .i64 s.size, eBS s.rows, eO s.right]] G from hs)
  have hl : cs.length = 3 := h1.len.symm
  match cs, hl, h1 with
  | [x1, x2, x3], _, h1 =>
    obtain ⟨F, F', f1, f2, f3, f4⟩ := h1.uncons
    obtain ⟨A, B, a1, a2, a3, a4⟩ := f2.uncons
    have e1 : x1 = .int .i64 s.size := f1.atomOf rfl
    subst e1
    have o2 : one x2 = true ∧ cellsOf x2 = [x2] := by
      cases hr : s.rows with
      | none => rw [hr] at a1; have : x2 = .nils := a1.atomOf rfl; rw [this]; exact ⟨rfl, rfl⟩
      | some l => rw [hr] at a1; obtain ⟨b, e⟩ := Ow.sl1 (show Ow h [x2] [.ro 2 _ _] A from a1); rw [e]; exact ⟨rfl, rfl⟩
    have o3 : one x3 = true ∧ cellsOf x3 = [x3] := by
      cases hr : s.right with
      | none => rw [hr] at a2; have : x3 = .nils := a2.atomOf rfl; rw [this]; exact ⟨rfl, rfl⟩
      | some l => rw [hr] at a2; obtain ⟨b, e⟩ := Ow.sl1 (show Ow h [x3] [.ro 1 _ _] B from a2); rw [e]; exact ⟨rfl, rfl⟩
    have gA : ∀ c, A c → G c := fun c hc => (f4 c (a3 c hc)).1
    have gB : ∀ c, B c → G c := fun c hc => (f4 c (a4 c hc).1).1
    refine enter (by kernel_rfl) e28 (by kernel_rfl) rfl fun hok => ?_
    simp only [r28, initEnv_2]
    (try (simp (disch := first | omega | (simp <;> omega) | fail) only [push_cast, ↓reduceIte, Nat.reduceEqDiff, Nat.reduceAdd, Nat.reduceMul, Nat.reduceSub, Nat.reduceLT, Int.reduceToNat, o2.1, o2.2, o3.1, o3.2]))
    refine (c_laws_markBitsS x2 s.rows A k _ (a1.frame fun c hc => List.getElem?_append_left (hG c (gA c hc))) hk (by omega)).mono (fun x h2 hx => ?_) (fun c hc hF => Or.inl (gA c hF))
    obtain ⟨rfl, hkp, ho⟩ := hx
    have hb : h2.cells h.length = some [.int .i64 s.size, x2, x3] := cells_keep_ (hkp.2 _ fun ha => absurd (hG _ (gA _ ha)) (by omega)) (by rw [cells_h0]; rfl)
    have hb3 := a2.frame (h' := h2) fun c hc => (hkp.2 c fun ha => (a4 c hc).2 ha).trans (List.getElem?_append_left (hG c (gB c hc)))
    (try (simp (disch := first | omega | (simp <;> omega) | fail) only [push_cast, ↓reduceIte, Nat.reduceEqDiff, Nat.reduceAdd, Nat.reduceMul, Nat.reduceSub, Nat.reduceLT, Int.reduceToNat, hb]))
    refine (c_laws_markBoolS x3 s.right B _ _ hb3 (by omega) (by omega)).mono (fun x h3 hx => ?_) (fun c hc hF => Or.inl (gB c hF))
    obtain ⟨rfl, hkp2⟩ := hx
    have l1 := hkp.1
    have l2 := hkp2.1
    have hkq : Kq G h h3 := ⟨by simp at l1; omega, fun c hc hn => (hkp2.2 c fun hf => hn (gB c hf)).trans ((hkp.2 c fun hf => hn (gA c hf)).trans (List.getElem?_append_left hc))⟩
    (try (simp (disch := first | omega | (simp <;> omega) | fail) only [push_cast, ↓reduceIte, Nat.reduceEqDiff, Nat.reduceAdd, Nat.reduceMul, Nat.reduceSub, Nat.reduceLT, Int.reduceToNat]))
    all_goals (try exact ⟨rfl, hkq⟩)
    all_goals (try exact hkq)

theorem c_laws_heldIntS (a : Option (List Int)) (k : Int) (n : Nat) (ha : lI a = marksI k n) (hk : 0 ≤ k) (hk2 : k + n ≤ 100000000) : Fn Try.prog 30 [eI a, .int .i64 k] (· = .int .i64 (k + n)) := by
  refine Fn.of free_int fun h => ?_
  refine enter (by kernel_rfl) e30 (by kernel_rfl) rfl fun hok => ?_
  simp only [r30, initEnv_2]
  have hln : (lI a).length = n := by rw [ha, marksI_len]
  (try (simp (disch := first | omega | (simp <;> omega) | fail) only [push_cast, ↓reduceIte, Nat.reduceEqDiff, Nat.reduceAdd, Nat.reduceMul, Nat.reduceSub, Nat.reduceLT, Int.reduceToNat]))
  refine T_for n (fun i e h' => Pins e [(0, eI a), (1, .int .i64 (k + i)), (5, .int .i64 i)] ∧ h' = h) ?_ ?_
  · (try (simp (disch := first | omega | (simp <;> omega) | fail) only [push_cast, ↓reduceIte, Nat.reduceEqDiff, Nat.reduceAdd, Nat.reduceMul, Nat.reduceSub, Nat.reduceLT, Int.reduceToNat]))
    all_goals (try simp)
  rintro i e h' hi ⟨hp, rfl⟩
  refine T_pins hp fun e => ?_
  (try (simp (disch := first | omega | (simp <;> omega) | fail) only [push_cast, ↓reduceIte, Nat.reduceEqDiff, Nat.reduceAdd, Nat.reduceMul, Nat.reduceSub, Nat.reduceLT, Int.reduceToNat, hln]))
  first | refine goC_split (fun hc => ?_) (fun hc => ?_) | refine cnd_split (fun hc => ?_) (fun hc => ?_)
  · (try (simp only [decide_eq_true_eq, decide_eq_false_iff_not, Bool.not_eq_true', Bool.not_eq_false', Bool.and_eq_true, Bool.or_eq_true, Int.not_lt, Int.not_le] at hc)); (try (simp (disch := first | omega | (simp <;> omega) | fail) only [push_cast, ↓reduceIte, Nat.reduceEqDiff, Nat.reduceAdd, Nat.reduceMul, Nat.reduceSub, Nat.reduceLT, Int.reduceToNat]))
    have hi2 : i < (lI a).length := by omega
    have hg : (lI a).getD i 0 = k + (i : Int) := by rw [ha, marksI_get (by omega)]
    (try (simp (disch := first | omega | (simp <;> omega) | fail) only [push_cast, ↓reduceIte, Nat.reduceEqDiff, Nat.reduceAdd, Nat.reduceMul, Nat.reduceSub, Nat.reduceLT, Int.reduceToNat, hln, hg]))
    all_goals (try omega)
  · (try (simp only [decide_eq_true_eq, decide_eq_false_iff_not, Bool.not_eq_true', Bool.not_eq_false', Bool.and_eq_true, Bool.or_eq_true, Int.not_lt, Int.not_le] at hc)); (try (simp (disch := first | omega | (simp <;> omega) | fail) only [push_cast, ↓reduceIte, Nat.reduceEqDiff, Nat.reduceAdd, Nat.reduceMul, Nat.reduceSub, Nat.reduceLT, Int.reduceToNat]))

def mkBt (k : Int) (b : Bt) : Bt := ⟨b.size, mkI k b.words⟩
theorem ow_bt {h : H} {x : AV} {b : Bt} {G : Nat → Prop} (ho : Ow h [x] [eB b] G) : ∃ w F, x = .agg [.int .i64 b.size, w] ∧ Ow h [w] [eI b.words] F ∧ (∀ c, F c → G c) ∧ one w = true ∧ cellsOf w = [w] ∧ ∀ h' ws, Ow h' [w] [eI ws] F → Ow h' [x] [eB ⟨b.size, ws⟩] G := by
  obtain ⟨cs, rfl, h1⟩ := Ow.openAgg (show Ow h [x] [.agg (cB b)] G from ho)
  have hl : cs.length = 2 := h1.len.symm
  match cs, hl, h1 with
  | [x1, x2], _, h1 =>
    obtain ⟨F, F', f1, f2, f3, f4⟩ := h1.uncons
    have e1 : x1 = .int .i64 b.size := f1.atomOf rfl
    subst e1
    refine ⟨x2, F', rfl, f2, fun c hc => (f4 c hc).1, ?_, ?_, fun h' ws hw => ?_⟩
    · cases hw : b.words with
      | none => rw [hw] at f2; have : x2 = .nils := f2.atomOf rfl; rw [this]; rfl
      | some ws => rw [hw] at f2; obtain ⟨bb, e2⟩ := Ow.sl1 (show Ow h [x2] [.ro 1 _ _] F' from f2); rw [e2]; rfl
    · cases hw : b.words with
      | none => rw [hw] at f2; have : x2 = .nils := f2.atomOf rfl; rw [this]; rfl
      | some ws => rw [hw] at f2; obtain ⟨bb, e2⟩ := Ow.sl1 (show Ow h [x2] [.ro 1 _ _] F' from f2); rw [e2]; rfl
    · exact (Ow.atom rfl (hw.mono fun c hc => (f4 c hc).1)).aggOf
theorem c_laws_markBits (v : AV) (b : Bt) (G : Nat → Prop) (k : Int) (h : H) (hs : Ow h [v] [eB b] G) (hG : ∀ c, G c → c < h.length) (hk : 0 ≤ k) (hk2 : k + (lI b.words).length ≤ 100000000) :
    Call Try.prog 36 [v, .int .i64 k] h G (fun x h' => x = .int .i64 (k + (lI b.words).length) ∧ Kq G h h' ∧ Ow h' [v] [eB (mkBt k b)] G) := by
  obtain ⟨w, F, rfl, f1, f2, f3, f4, f5⟩ := ow_bt hs
  refine enter (by kernel_rfl) e36 (by kernel_rfl) rfl fun hok => ?_
  simp only [r36, initEnv_2]
  (try (simp (disch := first | omega | (simp <;> omega) | fail) only [push_cast, ↓reduceIte, Nat.reduceEqDiff, Nat.reduceAdd, Nat.reduceMul, Nat.reduceSub, Nat.reduceLT, Int.reduceToNat, f3, f4]))
  refine (c_laws_markIntS w b.words F k _ (f1.frame fun c hc => List.getElem?_append_left (hG c (f2 c hc))) hk hk2).mono (fun x h2 hx => ?_) (fun c hc hF => Or.inl (f2 c hF))
  obtain ⟨rfl, hkp, ho⟩ := hx
  have h1 := hkp.1
  have hkq : Kq G h h2 := ⟨by simp at h1; omega, fun c hc hn => (hkp.2 c fun hf => hn (f2 c hf)).trans (List.getElem?_append_left hc)⟩
  (try (simp (disch := first | omega | (simp <;> omega) | fail) only [push_cast, ↓reduceIte, Nat.reduceEqDiff, Nat.reduceAdd, Nat.reduceMul, Nat.reduceSub, Nat.reduceLT, Int.reduceToNat]))
  exact ⟨hkq, f5 h2 _ ho⟩

theorem c_laws_heldBits (b : Bt) (k : Int) (hk : 0 ≤ k) (hk2 : k + (lI b.words).length ≤ 100000000) : Fn Try.prog 37 [eB (mkBt k b), .int .i64 k] (· = .int .i64 (k + (lI b.words).length)) := by
  refine Fn.of free_int fun h => ?_
  refine enter (by kernel_rfl) e37 (by kernel_rfl) rfl fun hok => ?_
  simp only [r37, initEnv_2]
  have hw : lI (mkBt k b).words = marksI k (lI b.words).length := lI_mkI
  (try (simp (disch := first | omega | (simp <;> omega) | fail) only [push_cast, ↓reduceIte, Nat.reduceEqDiff, Nat.reduceAdd, Nat.reduceMul, Nat.reduceSub, Nat.reduceLT, Int.reduceToNat]))
  refine (c_laws_heldIntS (mkBt k b).words k (lI b.words).length hw hk hk2).call ?_
  (try (simp (disch := first | omega | (simp <;> omega) | fail) only [push_cast, ↓reduceIte, Nat.reduceEqDiff, Nat.reduceAdd, Nat.reduceMul, Nat.reduceSub, Nat.reduceLT, Int.reduceToNat]))

theorem mkB_get : ∀ {k : Int} {l : List Bt} {i : Nat}, i < l.length → (mkB k l).getD i default = ⟨k + offB (l.take i), mkI (k + offB (l.take i) + 1) (l.getD i default).words⟩
  | k, [], i, hi => by simp at hi
  | k, b :: l, 0, _ => by simp [mkB, offB]
  | k, b :: l, i + 1, hi => by
    have ih := mkB_get (k := k + 1 + (lI b.words).length) (l := l) (i := i) (by simpa using hi)
    have e : k + 1 + ((lI b.words).length : Int) + (offB (l.take i) : Int) = k + (offB ((b :: l).take (i + 1)) : Int) := by
      simp only [offB, List.take_succ_cons, List.map_cons, List.sum_cons]
      omega
    rw [e] at ih
    simpa [mkB] using ih
theorem c_laws_heldBitsS (a : Option (List Bt)) (k : Int) (hk : 0 ≤ k) (hk2 : k + offB (lB a) ≤ 100000000) : Fn Try.prog 42 [eBS (a.map (mkB k)), .int .i64 k] (· = .int .i64 (k + offB (lB a))) := by
  refine Fn.of free_int fun h => ?_
  obtain ⟨M, hM⟩ : ∃ M, M = a.map (mkB k) := ⟨_, rfl⟩
  have hlM : lB M = mkB k (lB a) := by
    rw [hM]
    cases a <;> rfl
  rw [← hM]
  refine enter (by kernel_rfl) e42 (by kernel_rfl) rfl fun hok => ?_
  simp only [r42, initEnv_2]
  have hln : (lB M).length = (lB a).length := by rw [hlM, mkB_len]
  have hlen := ok_eBS (okV_0 hok)
  have hall : (lB a).take (lB a).length = lB a := List.take_length
  (try (simp (disch := first | omega | (simp <;> omega) | fail) only [push_cast, ↓reduceIte, Nat.reduceEqDiff, Nat.reduceAdd, Nat.reduceMul, Nat.reduceSub, Nat.reduceLT, Int.reduceToNat]))
  refine T_for (lB a).length (fun i e h' => Pins e [(0, eBS M), (1, .int .i64 (k + offB ((lB a).take i))), (5, .int .i64 i)] ∧ h' = h) ?_ ?_
  · (try (simp (disch := first | omega | (simp <;> omega) | fail) only [push_cast, ↓reduceIte, Nat.reduceEqDiff, Nat.reduceAdd, Nat.reduceMul, Nat.reduceSub, Nat.reduceLT, Int.reduceToNat]))
    all_goals (try simp [offB])
  rintro i e h' hi ⟨hp, rfl⟩
  refine T_pins hp fun e => ?_
  (try (simp (disch := first | omega | (simp <;> omega) | fail) only [push_cast, ↓reduceIte, Nat.reduceEqDiff, Nat.reduceAdd, Nat.reduceMul, Nat.reduceSub, Nat.reduceLT, Int.reduceToNat, hln]))
  first | refine goC_split (fun hc => ?_) (fun hc => ?_) | refine cnd_split (fun hc => ?_) (fun hc => ?_)
  · (try (simp only [decide_eq_true_eq, decide_eq_false_iff_not, Bool.not_eq_true', Bool.not_eq_false', Bool.and_eq_true, Bool.or_eq_true, Int.not_lt, Int.not_le] at hc)); (try (simp (disch := first | omega | (simp <;> omega) | fail) only [push_cast, ↓reduceIte, Nat.reduceEqDiff, Nat.reduceAdd, Nat.reduceMul, Nat.reduceSub, Nat.reduceLT, Int.reduceToNat]))
    have hi2 : i < (lB a).length := by omega
    have hi3 : i < (lB M).length := by omega
    have hof := offB_take hi2
    have hole := offB_le (lB a) (i + 1)
    obtain ⟨K, hK⟩ : ∃ K, K = k + (offB ((lB a).take i) : Int) := ⟨_, rfl⟩
    have hg := mkB_get (k := k) hi2
    rw [← hlM, ← hK] at hg
    have hgs : ((lB M).getD i default).size = K := by rw [hg]
    have hgw : ((lB M).getD i default).words = mkI (K + 1) ((lB a).getD i default).words := by rw [hg]
    (try (simp (disch := first | omega | (simp <;> omega) | fail) only [push_cast, ↓reduceIte, Nat.reduceEqDiff, Nat.reduceAdd, Nat.reduceMul, Nat.reduceSub, Nat.reduceLT, Int.reduceToNat, ← hK, hln, hgs, hgw]))
    refine (c_laws_heldIntS (mkI (K + 1) ((lB a).getD i default).words) (K + 1) (lI ((lB a).getD i default).words).length lI_mkI (by omega) (by omega)).call ?_
    (try (simp (disch := first | omega | (simp <;> omega) | fail) only [push_cast, ↓reduceIte, Nat.reduceEqDiff, Nat.reduceAdd, Nat.reduceMul, Nat.reduceSub, Nat.reduceLT, Int.reduceToNat]))
    all_goals (try omega)
  · (try (simp only [decide_eq_true_eq, decide_eq_false_iff_not, Bool.not_eq_true', Bool.not_eq_false', Bool.and_eq_true, Bool.or_eq_true, Int.not_lt, Int.not_le] at hc)); (try (simp (disch := first | omega | (simp <;> omega) | fail) only [push_cast, ↓reduceIte, Nat.reduceEqDiff, Nat.reduceAdd, Nat.reduceMul, Nat.reduceSub, Nat.reduceLT, Int.reduceToNat]))
    have hie : i = (lB a).length := by omega
    subst hie
    (try (simp (disch := first | omega | (simp <;> omega) | fail) only [push_cast, ↓reduceIte, Nat.reduceEqDiff, Nat.reduceAdd, Nat.reduceMul, Nat.reduceSub, Nat.reduceLT, Int.reduceToNat, hall]))
    all_goals (try rw [hall])

theorem c_spec_l1In (n lo hi : Int) : Fn Try.prog 98 [.int .i64 n, .int .i64 lo, .int .i64 hi] (· = .bool (decide (lo ≤ n) && decide (n ≤ hi))) := by
  refine Fn.of free_bool fun h => ?_
  refine enter (by kernel_rfl) e98 (by kernel_rfl) rfl fun hok => ?_
  simp only [r98, initEnv_3]
  (try (simp (disch := first | omega | (simp <;> omega) | fail) only [push_cast, ↓reduceIte, Nat.reduceEqDiff, Nat.reduceAdd, Nat.reduceMul, Nat.reduceSub, Nat.reduceLT, Int.reduceToNat]))
  first | refine goC_split (fun hc => ?_) (fun hc => ?_) | refine cnd_split (fun hc => ?_) (fun hc => ?_)
  · (try (simp only [decide_eq_true_eq, decide_eq_false_iff_not, Bool.not_eq_true', Bool.not_eq_false', Bool.and_eq_true, Bool.or_eq_true, Int.not_lt, Int.not_le] at hc)); (try (simp (disch := first | omega | (simp <;> omega) | fail) only [push_cast, ↓reduceIte, Nat.reduceEqDiff, Nat.reduceAdd, Nat.reduceMul, Nat.reduceSub, Nat.reduceLT, Int.reduceToNat]))
    first | refine goC_split (fun hd => ?_) (fun hd => ?_) | refine cnd_split (fun hd => ?_) (fun hd => ?_)
    · (try (simp only [decide_eq_true_eq, decide_eq_false_iff_not, Bool.not_eq_true', Bool.not_eq_false', Bool.and_eq_true, Bool.or_eq_true, Int.not_lt, Int.not_le] at hd)); (try (simp (disch := first | omega | (simp <;> omega) | fail) only [push_cast, ↓reduceIte, Nat.reduceEqDiff, Nat.reduceAdd, Nat.reduceMul, Nat.reduceSub, Nat.reduceLT, Int.reduceToNat]))
    · (try (simp only [decide_eq_true_eq, decide_eq_false_iff_not, Bool.not_eq_true', Bool.not_eq_false', Bool.and_eq_true, Bool.or_eq_true, Int.not_lt, Int.not_le] at hd)); (try (simp (disch := first | omega | (simp <;> omega) | fail) only [push_cast, ↓reduceIte, Nat.reduceEqDiff, Nat.reduceAdd, Nat.reduceMul, Nat.reduceSub, Nat.reduceLT, Int.reduceToNat]))
  · (try (simp only [decide_eq_true_eq, decide_eq_false_iff_not, Bool.not_eq_true', Bool.not_eq_false', Bool.and_eq_true, Bool.or_eq_true, Int.not_lt, Int.not_le] at hc)); (try (simp (disch := first | omega | (simp <;> omega) | fail) only [push_cast, ↓reduceIte, Nat.reduceEqDiff, Nat.reduceAdd, Nat.reduceMul, Nat.reduceSub, Nat.reduceLT, Int.reduceToNat]))
    try simp

theorem c_spec_l1All (a : Option (List Int)) (lo hi : Int) : Fn Try.prog 118 [eI a, .int .i64 lo, .int .i64 hi] (· = .bool ((lI a).all fun m => decide (lo ≤ m) && decide (m ≤ hi))) := by
  refine Fn.of free_bool fun h => ?_
  refine enter (by kernel_rfl) e118 (by kernel_rfl) rfl fun hok => ?_
  simp only [r118, initEnv_3]
  have hlen := ok_eI (okV_0 hok)
  (try (simp (disch := first | omega | (simp <;> omega) | fail) only [push_cast, ↓reduceIte, Nat.reduceEqDiff, Nat.reduceAdd, Nat.reduceMul, Nat.reduceSub, Nat.reduceLT, Int.reduceToNat]))
  refine T_for (lI a).length (fun i e h' => Pins e [(1, .int .i64 lo), (2, .int .i64 hi), (9, eI a), (10, .int .i64 (lI a).length), (11, .int .i64 i)] ∧ h' = h ∧ ((lI a).take i).all (fun m => decide (lo ≤ m) && decide (m ≤ hi)) = true) ?_ ?_
  · (try (simp (disch := first | omega | (simp <;> omega) | fail) only [push_cast, ↓reduceIte, Nat.reduceEqDiff, Nat.reduceAdd, Nat.reduceMul, Nat.reduceSub, Nat.reduceLT, Int.reduceToNat]))
    all_goals (try simp)
  rintro i e h' hi_ ⟨hp, rfl, ha⟩
  refine T_pins hp fun e => ?_
  (try (simp (disch := first | omega | (simp <;> omega) | fail) only [push_cast, ↓reduceIte, Nat.reduceEqDiff, Nat.reduceAdd, Nat.reduceMul, Nat.reduceSub, Nat.reduceLT, Int.reduceToNat]))
  first | refine goC_split (fun hc => ?_) (fun hc => ?_) | refine cnd_split (fun hc => ?_) (fun hc => ?_)
  · (try (simp only [decide_eq_true_eq, decide_eq_false_iff_not, Bool.not_eq_true', Bool.not_eq_false', Bool.and_eq_true, Bool.or_eq_true, Int.not_lt, Int.not_le] at hc)); (try (simp (disch := first | omega | (simp <;> omega) | fail) only [push_cast, ↓reduceIte, Nat.reduceEqDiff, Nat.reduceAdd, Nat.reduceMul, Nat.reduceSub, Nat.reduceLT, Int.reduceToNat]))
    have hi2 : i < (lI a).length := by omega
    (try (simp (disch := first | omega | (simp <;> omega) | fail) only [push_cast, ↓reduceIte, Nat.reduceEqDiff, Nat.reduceAdd, Nat.reduceMul, Nat.reduceSub, Nat.reduceLT, Int.reduceToNat]))
    refine (c_spec_l1In _ _ _).call ?_
    have hn : ((lI a).take (i + 1)).all (fun m => decide (lo ≤ m) && decide (m ≤ hi)) = (decide (lo ≤ (lI a).getD i 0) && decide ((lI a).getD i 0 ≤ hi)) := by
      rw [List.take_add_one, List.all_append, ha]
      simp [hi2]
    cases hk : (decide (lo ≤ (lI a).getD i 0) && decide ((lI a).getD i 0 ≤ hi))
    · (try (simp (disch := first | omega | (simp <;> omega) | fail) only [push_cast, ↓reduceIte, Nat.reduceEqDiff, Nat.reduceAdd, Nat.reduceMul, Nat.reduceSub, Nat.reduceLT, Int.reduceToNat]))
      symm
      rw [List.all_eq_false]
      refine ⟨(lI a).getD i 0, by simp [hi2], by rw [hk]; simp⟩
    · (try (simp (disch := first | omega | (simp <;> omega) | fail) only [push_cast, ↓reduceIte, Nat.reduceEqDiff, Nat.reduceAdd, Nat.reduceMul, Nat.reduceSub, Nat.reduceLT, Int.reduceToNat]))
      rw [hn, hk]
  · (try (simp only [decide_eq_true_eq, decide_eq_false_iff_not, Bool.not_eq_true', Bool.not_eq_false', Bool.and_eq_true, Bool.or_eq_true, Int.not_lt, Int.not_le] at hc)); (try (simp (disch := first | omega | (simp <;> omega) | fail) only [push_cast, ↓reduceIte, Nat.reduceEqDiff, Nat.reduceAdd, Nat.reduceMul, Nat.reduceSub, Nat.reduceLT, Int.reduceToNat]))
    have : (lI a).take i = lI a := List.take_of_length_le (by omega)
    rw [this] at ha
    rw [ha]

theorem c_spec_biGood (b : Bt) : Fn Try.prog 94 [eB b] (· = .bool (okBt b)) := by
  refine Fn.of free_bool fun h => ?_
  refine enter (by kernel_rfl) e94 (by kernel_rfl) rfl fun hok => ?_
  simp only [r94, initEnv_1]
  (try (simp (disch := first | omega | (simp <;> omega) | fail) only [push_cast, ↓reduceIte, Nat.reduceEqDiff, Nat.reduceAdd, Nat.reduceMul, Nat.reduceSub, Nat.reduceLT, Int.reduceToNat]))
  unfold okBt
  refine (c_spec_l1In _ _ _).call ?_
  cases h1 : (decide (0 ≤ b.size) && decide (b.size ≤ 4096))
  · (try (simp (disch := first | omega | (simp <;> omega) | fail) only [push_cast, ↓reduceIte, Nat.reduceEqDiff, Nat.reduceAdd, Nat.reduceMul, Nat.reduceSub, Nat.reduceLT, Int.reduceToNat]))
  have h3 : 0 ≤ b.size ∧ b.size ≤ 4096 := by simpa using h1
  (try (simp (disch := first | omega | (simp <;> omega) | fail) only [push_cast, ↓reduceIte, Nat.reduceEqDiff, Nat.reduceAdd, Nat.reduceMul, Nat.reduceSub, Nat.reduceLT, Int.reduceToNat]))
  first | refine goC_split (fun hc => ?_) (fun hc => ?_) | refine cnd_split (fun hc => ?_) (fun hc => ?_)
  · (try (simp only [decide_eq_true_eq, decide_eq_false_iff_not, Bool.not_eq_true', Bool.not_eq_false', Bool.and_eq_true, Bool.or_eq_true, Int.not_lt, Int.not_le] at hc)); (try (simp (disch := first | omega | (simp <;> omega) | fail) only [push_cast, ↓reduceIte, Nat.reduceEqDiff, Nat.reduceAdd, Nat.reduceMul, Nat.reduceSub, Nat.reduceLT, Int.reduceToNat]))
    all_goals (try simp [hc])
  (try (simp only [decide_eq_true_eq, decide_eq_false_iff_not, Bool.not_eq_true', Bool.not_eq_false', Bool.and_eq_true, Bool.or_eq_true, Int.not_lt, Int.not_le] at hc)); (try (simp (disch := first | omega | (simp <;> omega) | fail) only [push_cast, ↓reduceIte, Nat.reduceEqDiff, Nat.reduceAdd, Nat.reduceMul, Nat.reduceSub, Nat.reduceLT, Int.reduceToNat]))
  refine (c_spec_l1All _ _ _).call ?_
  rw [show ((lI b.words).all fun m => decide (0 ≤ m) && decide (m ≤ 65535)) = okWords (lI b.words) from rfl]
  cases h2 : okWords (lI b.words)
  · (try (simp (disch := first | omega | (simp <;> omega) | fail) only [push_cast, ↓reduceIte, Nat.reduceEqDiff, Nat.reduceAdd, Nat.reduceMul, Nat.reduceSub, Nat.reduceLT, Int.reduceToNat]))
    all_goals (try simp)
  unfold lastOk
  by_cases hz : b.size % 16 = 0
  · (try (simp (disch := first | omega | (simp <;> omega) | fail) only [push_cast, ↓reduceIte, Nat.reduceEqDiff, Nat.reduceAdd, Nat.reduceMul, Nat.reduceSub, Nat.reduceLT, Int.reduceToNat, hz]))
    all_goals (try simp [hc])
  · have hln : 1 ≤ (lI b.words).length := by omega
    have hm : 0 ≤ b.size % 16 ∧ b.size % 16 ≤ 15 := by omega
    (try (simp (disch := first | omega | (simp <;> omega) | fail) only [push_cast, ↓reduceIte, Nat.reduceEqDiff, Nat.reduceAdd, Nat.reduceMul, Nat.reduceSub, Nat.reduceLT, Int.reduceToNat, hz]))
    (first | refine goC_split (fun hc => ?_) (fun hc => ?_) | refine cnd_split (fun hc => ?_) (fun hc => ?_)) <;> ((try (simp (disch := first | omega | (simp <;> omega) | fail) only [push_cast, ↓reduceIte, Nat.reduceEqDiff, Nat.reduceAdd, Nat.reduceMul, Nat.reduceSub, Nat.reduceLT, Int.reduceToNat]))) <;> (try rw [hc])

def okRow (n : Int) (r : Bt) : Bool := okBt r && decide (r.size = n)
def okSy (s : Sy) : Bool := (decide (1 ≤ s.size) && decide (s.size ≤ 72)) && (decide (((lB s.rows).length : Int) ≤ 40) && (decide (((lO s.right).length : Int) = (lB s.rows).length) && (lB s.rows).all (okRow s.size)))
theorem rows_take {f : Bt → Bool} {l : List Bt} {i : Nat} (hi : i < l.length) : (l.take (i + 1)).all f = ((l.take i).all f && f (l.getD i default)) := by
  rw [List.take_add_one, List.all_append]
  simp [hi]
theorem rows_no {f : Bt → Bool} {l : List Bt} {i : Nat} (hi : i < l.length) (hf : f (l.getD i default) = false) : l.all f = false := by
  rw [List.all_eq_false]
  exact ⟨l.getD i default, by simp [hi], by rw [hf]; simp⟩

theorem c_spec_reGood (s : Sy) : Fn Try.prog 59 [eSy s] (· = .bool (okSy s)) := by
  refine Fn.of free_bool fun h => ?_
  refine enter (by kernel_rfl) e59 (by kernel_rfl) rfl fun hok => ?_
  simp only [r59, initEnv_1]
  have hlen := ok_eBS ((okV_0 hok).agg (eBS s.rows) (by simp))
  (try (simp (disch := first | omega | (simp <;> omega) | fail) only [push_cast, ↓reduceIte, Nat.reduceEqDiff, Nat.reduceAdd, Nat.reduceMul, Nat.reduceSub, Nat.reduceLT, Int.reduceToNat]))
  unfold okSy
  refine (c_spec_l1In _ _ _).call ?_
  cases h1 : (decide (1 ≤ s.size) && decide (s.size ≤ 72))
  · (try (simp (disch := first | omega | (simp <;> omega) | fail) only [push_cast, ↓reduceIte, Nat.reduceEqDiff, Nat.reduceAdd, Nat.reduceMul, Nat.reduceSub, Nat.reduceLT, Int.reduceToNat]))
  (try (simp (disch := first | omega | (simp <;> omega) | fail) only [push_cast, ↓reduceIte, Nat.reduceEqDiff, Nat.reduceAdd, Nat.reduceMul, Nat.reduceSub, Nat.reduceLT, Int.reduceToNat]))
  by_cases h2 : ((lB s.rows).length : Int) ≤ 40
  · by_cases h3 : ((lO s.right).length : Int) = (lB s.rows).length
    · (try (simp (disch := first | omega | (simp <;> omega) | fail) only [push_cast, ↓reduceIte, Nat.reduceEqDiff, Nat.reduceAdd, Nat.reduceMul, Nat.reduceSub, Nat.reduceLT, Int.reduceToNat, h2, h3]))
      refine T_for (lB s.rows).length (fun i e h' => Pins e [(1, .adr h.length 0), (25, eBS s.rows), (26, .int .i64 (lB s.rows).length), (27, .int .i64 i)] ∧ (h.length < h'.length ∧ H.cells h' h.length = some [.int .i64 s.size, eBS s.rows, eO s.right]) ∧ ((lB s.rows).take i).all (okRow s.size) = true) ?_ ?_
      · (try (simp (disch := first | omega | (simp <;> omega) | fail) only [push_cast, ↓reduceIte, Nat.reduceEqDiff, Nat.reduceAdd, Nat.reduceMul, Nat.reduceSub, Nat.reduceLT, Int.reduceToNat]))
        all_goals (try simp)
      rintro i e h' hi ⟨hp, ⟨hlt, hbox⟩, ha⟩
      refine T_pins hp fun e => ?_
      have hbox2 : ∀ l : H, H.cells (h' ++ l) h.length = some [.int .i64 s.size, eBS s.rows, eO s.right] := fun l => cells_app hbox
      (try (simp (disch := first | omega | (simp <;> omega) | fail) only [push_cast, ↓reduceIte, Nat.reduceEqDiff, Nat.reduceAdd, Nat.reduceMul, Nat.reduceSub, Nat.reduceLT, Int.reduceToNat, hbox]))
      first | refine goC_split (fun hc => ?_) (fun hc => ?_) | refine cnd_split (fun hc => ?_) (fun hc => ?_)
      · (try (simp only [decide_eq_true_eq, decide_eq_false_iff_not, Bool.not_eq_true', Bool.not_eq_false', Bool.and_eq_true, Bool.or_eq_true, Int.not_lt, Int.not_le] at hc)); (try (simp (disch := first | omega | (simp <;> omega) | fail) only [push_cast, ↓reduceIte, Nat.reduceEqDiff, Nat.reduceAdd, Nat.reduceMul, Nat.reduceSub, Nat.reduceLT, Int.reduceToNat]))
        have hi2 : i < (lB s.rows).length := by omega
        have hrt := rows_take (f := okRow s.size) hi2
        (try (simp (disch := first | omega | (simp <;> omega) | fail) only [push_cast, ↓reduceIte, Nat.reduceEqDiff, Nat.reduceAdd, Nat.reduceMul, Nat.reduceSub, Nat.reduceLT, Int.reduceToNat, hbox, hbox2]))
        refine (c_spec_biGood ((lB s.rows).getD i default)).call ?_
        cases hk : okBt ((lB s.rows).getD i default)
        · rw [rows_no (f := okRow s.size) hi2 (by unfold okRow; rw [hk]; rfl)]
          (try (simp (disch := first | omega | (simp <;> omega) | fail) only [push_cast, ↓reduceIte, Nat.reduceEqDiff, Nat.reduceAdd, Nat.reduceMul, Nat.reduceSub, Nat.reduceLT, Int.reduceToNat, hbox, hbox2]))
          all_goals (try rfl)
        · by_cases hz : ((lB s.rows).getD i default).size = s.size
          · have hok2 : ((lB s.rows).take (i + 1)).all (okRow s.size) = true := by
              rw [hrt, ha]
              unfold okRow
              rw [hk, decide_eq_true hz]
              rfl
            (try (simp (disch := first | omega | (simp <;> omega) | fail) only [push_cast, ↓reduceIte, Nat.reduceEqDiff, Nat.reduceAdd, Nat.reduceMul, Nat.reduceSub, Nat.reduceLT, Int.reduceToNat, hbox, hbox2, hz, hok2]))
            all_goals (try exact hbox2 _)
            all_goals (try exact ⟨hbox2 _, hok2⟩)
          · rw [rows_no (f := okRow s.size) hi2 (by unfold okRow; rw [hk, decide_eq_false hz]; rfl)]
            (try (simp (disch := first | omega | (simp <;> omega) | fail) only [push_cast, ↓reduceIte, Nat.reduceEqDiff, Nat.reduceAdd, Nat.reduceMul, Nat.reduceSub, Nat.reduceLT, Int.reduceToNat, hbox, hbox2, hz]))
            all_goals (try rfl)
      · (try (simp only [decide_eq_true_eq, decide_eq_false_iff_not, Bool.not_eq_true', Bool.not_eq_false', Bool.and_eq_true, Bool.or_eq_true, Int.not_lt, Int.not_le] at hc)); (try (simp (disch := first | omega | (simp <;> omega) | fail) only [push_cast, ↓reduceIte, Nat.reduceEqDiff, Nat.reduceAdd, Nat.reduceMul, Nat.reduceSub, Nat.reduceLT, Int.reduceToNat]))
        have he : (lB s.rows).take i = lB s.rows := List.take_of_length_le (by omega)
        rw [he] at ha
        rw [ha]
        all_goals (try simp)
    · (try (simp (disch := first | omega | (simp <;> omega) | fail) only [push_cast, ↓reduceIte, Nat.reduceEqDiff, Nat.reduceAdd, Nat.reduceMul, Nat.reduceSub, Nat.reduceLT, Int.reduceToNat, h2, h3]))
      all_goals (try simp [h3])
  · (try (simp (disch := first | omega | (simp <;> omega) | fail) only [push_cast, ↓reduceIte, Nat.reduceEqDiff, Nat.reduceAdd, Nat.reduceMul, Nat.reduceSub, Nat.reduceLT, Int.reduceToNat, h2]))
    all_goals (try simp [h2])

theorem c_IndexFunc_Bits (a : Option (List Bt)) (f b0 : Nat) (cs : List AV) (g : Bt → Bool) (hg : ∀ x, Fn Try.prog f [eB x, .rad cs 0] (· = .bool (g x))) (hfree : ∀ c ∈ cs, Free c) (h : H) (hb : h.cells b0 = some cs) :
    Call Try.prog 115 [eBS a, .fn f [.adr b0 0]] h Nowhere (fun x h' => (∃ n : Int, x = .int .i64 n ∧ decide (0 ≤ n) = !((lB a).all fun m => !g m)) ∧ h' = h) := by
  refine Call.gc (Call.mono (?_ : Call Try.prog 115 [eBS a, .fn f [.adr b0 0]] h Nowhere (fun x _ => ∃ n : Int, x = .int .i64 n ∧ decide (0 ≤ n) = !((lB a).all fun m => !g m))) (fun x _ ⟨n, hn, hx⟩ => ⟨⟨n, hn, hx⟩, by rw [hn]; exact free_int⟩) (fun _ _ h => h))
  refine enter (by kernel_rfl) e115 (by kernel_rfl) rfl fun hok => ?_
  simp only [r115, initEnv_2]
  have hlen := ok_eBS (okV_0 hok)
  (try (simp (disch := first | omega | (simp <;> omega) | fail) only [push_cast, ↓reduceIte, Nat.reduceEqDiff, Nat.reduceAdd, Nat.reduceMul, Nat.reduceSub, Nat.reduceLT, Int.reduceToNat]))
  refine T_for (lB a).length (fun i e h' => Pins e [(0, eBS a), (1, .fn f [.adr b0 0]), (7, .int .i64 (lB a).length), (8, .int .i64 i)] ∧ h' = h ∧ ((lB a).take i).all (fun m => !g m) = true) ?_ ?_
  · (try (simp (disch := first | omega | (simp <;> omega) | fail) only [push_cast, ↓reduceIte, Nat.reduceEqDiff, Nat.reduceAdd, Nat.reduceMul, Nat.reduceSub, Nat.reduceLT, Int.reduceToNat]))
    all_goals (try simp)
  rintro i e h' hi ⟨hp, rfl, ha⟩
  refine T_pins hp fun e => ?_
  (try (simp (disch := first | omega | (simp <;> omega) | fail) only [push_cast, ↓reduceIte, Nat.reduceEqDiff, Nat.reduceAdd, Nat.reduceMul, Nat.reduceSub, Nat.reduceLT, Int.reduceToNat]))
  first | refine goC_split (fun hc => ?_) (fun hc => ?_) | refine cnd_split (fun hc => ?_) (fun hc => ?_)
  · (try (simp only [decide_eq_true_eq, decide_eq_false_iff_not, Bool.not_eq_true', Bool.not_eq_false', Bool.and_eq_true, Bool.or_eq_true, Int.not_lt, Int.not_le] at hc)); (try (simp (disch := first | omega | (simp <;> omega) | fail) only [push_cast, ↓reduceIte, Nat.reduceEqDiff, Nat.reduceAdd, Nat.reduceMul, Nat.reduceSub, Nat.reduceLT, Int.reduceToNat]))
    have hi2 : i < (lB a).length := by omega
    (try (simp (disch := first | omega | (simp <;> omega) | fail) only [push_cast, ↓reduceIte, Nat.reduceEqDiff, Nat.reduceAdd, Nat.reduceMul, Nat.reduceSub, Nat.reduceLT, Int.reduceToNat]))
    refine (hg _).lendL (.free free_eB (.adr hb hfree .nil)) own_bool ?_
    have hn := rows_take (f := fun m => !g m) hi2
    cases hk : g ((lB a).getD i default)
    · (try (simp (disch := first | omega | (simp <;> omega) | fail) only [push_cast, ↓reduceIte, Nat.reduceEqDiff, Nat.reduceAdd, Nat.reduceMul, Nat.reduceSub, Nat.reduceLT, Int.reduceToNat]))
      rw [hn, ha, hk]
      all_goals (try rfl)
    · (try (simp (disch := first | omega | (simp <;> omega) | fail) only [push_cast, ↓reduceIte, Nat.reduceEqDiff, Nat.reduceAdd, Nat.reduceMul, Nat.reduceSub, Nat.reduceLT, Int.reduceToNat]))
      refine ⟨_, rfl, ?_⟩
      rw [rows_no (f := fun m => !g m) hi2 (by rw [hk]; rfl)]
      simp
  · (try (simp only [decide_eq_true_eq, decide_eq_false_iff_not, Bool.not_eq_true', Bool.not_eq_false', Bool.and_eq_true, Bool.or_eq_true, Int.not_lt, Int.not_le] at hc)); (try (simp (disch := first | omega | (simp <;> omega) | fail) only [push_cast, ↓reduceIte, Nat.reduceEqDiff, Nat.reduceAdd, Nat.reduceMul, Nat.reduceSub, Nat.reduceLT, Int.reduceToNat]))
    have : (lB a).take i = lB a := List.take_of_length_le (by omega)
    rw [this] at ha
    refine ⟨_, rfl, ?_⟩
    rw [ha]
    rfl

theorem c_ContainsFunc_Bits (a : Option (List Bt)) (f b0 : Nat) (cs : List AV) (g : Bt → Bool) (hg : ∀ x, Fn Try.prog f [eB x, .rad cs 0] (· = .bool (g x))) (hfree : ∀ c ∈ cs, Free c) (h : H) (hb : h.cells b0 = some cs) :
    Call Try.prog 90 [eBS a, .fn f [.adr b0 0]] h Nowhere (fun x h' => x = .bool (!((lB a).all fun m => !g m)) ∧ h' = h) := by
  refine Call.gc (Call.mono (?_ : Call Try.prog 90 [eBS a, .fn f [.adr b0 0]] h Nowhere (fun x _ => x = .bool (!((lB a).all fun m => !g m)))) (fun x _ hx => ⟨hx, by rw [hx]; exact free_bool⟩) (fun _ _ h => h))
  refine enter (by kernel_rfl) e90 (by kernel_rfl) rfl fun hok => ?_
  simp only [r90, initEnv_2]
  (try (simp (disch := first | omega | (simp <;> omega) | fail) only [push_cast, ↓reduceIte, Nat.reduceEqDiff, Nat.reduceAdd, Nat.reduceMul, Nat.reduceSub, Nat.reduceLT, Int.reduceToNat]))
  refine (c_IndexFunc_Bits a f b0 cs g hg hfree h hb).mono (fun x h' hx => ?_) (fun _ _ h => h.elim)
  obtain ⟨⟨n, rfl, hn⟩, rfl⟩ := hx
  rw [← hn]
  (try (simp (disch := first | omega | (simp <;> omega) | fail) only [push_cast, ↓reduceIte, Nat.reduceEqDiff, Nat.reduceAdd, Nat.reduceMul, Nat.reduceSub, Nat.reduceLT, Int.reduceToNat]))
  (first | refine goC_split (fun hc => ?_) (fun hc => ?_) | refine cnd_split (fun hc => ?_) (fun hc => ?_)) <;> ((try (simp (disch := first | omega | (simp <;> omega) | fail) only [push_cast, ↓reduceIte, Nat.reduceEqDiff, Nat.reduceAdd, Nat.reduceMul, Nat.reduceSub, Nat.reduceLT, Int.reduceToNat]))) <;> (try rw [hc])

theorem c_impl_in (n lo hi : Int) : Fn Try.prog 87 [.int .i64 n, .int .i64 lo, .int .i64 hi] (· = .bool (decide (lo ≤ n) && decide (n ≤ hi))) := by
  refine Fn.of free_bool fun h => ?_
  refine enter (by kernel_rfl) e87 (by kernel_rfl) rfl fun hok => ?_
  simp only [r87, initEnv_3]
  (try (simp (disch := first | omega | (simp <;> omega) | fail) only [push_cast, ↓reduceIte, Nat.reduceEqDiff, Nat.reduceAdd, Nat.reduceMul, Nat.reduceSub, Nat.reduceLT, Int.reduceToNat]))
  first | refine goC_split (fun hc => ?_) (fun hc => ?_) | refine cnd_split (fun hc => ?_) (fun hc => ?_)
  · (try (simp only [decide_eq_true_eq, decide_eq_false_iff_not, Bool.not_eq_true', Bool.not_eq_false', Bool.and_eq_true, Bool.or_eq_true, Int.not_lt, Int.not_le] at hc)); (try (simp (disch := first | omega | (simp <;> omega) | fail) only [push_cast, ↓reduceIte, Nat.reduceEqDiff, Nat.reduceAdd, Nat.reduceMul, Nat.reduceSub, Nat.reduceLT, Int.reduceToNat]))
    first | refine goC_split (fun hd => ?_) (fun hd => ?_) | refine cnd_split (fun hd => ?_) (fun hd => ?_)
    · (try (simp only [decide_eq_true_eq, decide_eq_false_iff_not, Bool.not_eq_true', Bool.not_eq_false', Bool.and_eq_true, Bool.or_eq_true, Int.not_lt, Int.not_le] at hd)); (try (simp (disch := first | omega | (simp <;> omega) | fail) only [push_cast, ↓reduceIte, Nat.reduceEqDiff, Nat.reduceAdd, Nat.reduceMul, Nat.reduceSub, Nat.reduceLT, Int.reduceToNat]))
    · (try (simp only [decide_eq_true_eq, decide_eq_false_iff_not, Bool.not_eq_true', Bool.not_eq_false', Bool.and_eq_true, Bool.or_eq_true, Int.not_lt, Int.not_le] at hd)); (try (simp (disch := first | omega | (simp <;> omega) | fail) only [push_cast, ↓reduceIte, Nat.reduceEqDiff, Nat.reduceAdd, Nat.reduceMul, Nat.reduceSub, Nat.reduceLT, Int.reduceToNat]))
  · (try (simp only [decide_eq_true_eq, decide_eq_false_iff_not, Bool.not_eq_true', Bool.not_eq_false', Bool.and_eq_true, Bool.or_eq_true, Int.not_lt, Int.not_le] at hc)); (try (simp (disch := first | omega | (simp <;> omega) | fail) only [push_cast, ↓reduceIte, Nat.reduceEqDiff, Nat.reduceAdd, Nat.reduceMul, Nat.reduceSub, Nat.reduceLT, Int.reduceToNat]))
    try simp

theorem c_impl_words (n : Int) (h0 : 0 ≤ n) (h1 : n ≤ 1000000000) : Fn Try.prog 104 [.int .i64 n] (· = .int .i64 ((n + 15) / 16)) := by
  refine Fn.of free_int fun h => ?_
  refine enter (by kernel_rfl) e104 (by kernel_rfl) rfl fun hok => ?_
  simp only [r104, initEnv_1]
  (try (simp (disch := first | omega | (simp <;> omega) | fail) only [push_cast, ↓reduceIte, Nat.reduceEqDiff, Nat.reduceAdd, Nat.reduceMul, Nat.reduceSub, Nat.reduceLT, Int.reduceToNat]))
  all_goals (try omega)

theorem c_impl_IsBits (b : Bt) : Fn Try.prog 86 [eB b] (· = .bool (okBt b)) := by
  refine Fn.of free_bool fun h => ?_
  refine enter (by kernel_rfl) e86 (by kernel_rfl) rfl fun hok => ?_
  simp only [r86, initEnv_1]
  have hlen := ok_eI ((okV_0 hok).agg (eI b.words) (by simp [cB]))
  (try (simp (disch := first | omega | (simp <;> omega) | fail) only [push_cast, ↓reduceIte, Nat.reduceEqDiff, Nat.reduceAdd, Nat.reduceMul, Nat.reduceSub, Nat.reduceLT, Int.reduceToNat]))
  unfold okBt
  refine (c_impl_in _ _ _).call ?_
  cases h1 : (decide (0 ≤ b.size) && decide (b.size ≤ 4096))
  · (try (simp (disch := first | omega | (simp <;> omega) | fail) only [push_cast, ↓reduceIte, Nat.reduceEqDiff, Nat.reduceAdd, Nat.reduceMul, Nat.reduceSub, Nat.reduceLT, Int.reduceToNat]))
  have h3 : 0 ≤ b.size ∧ b.size ≤ 4096 := by simpa using h1
  (try (simp (disch := first | omega | (simp <;> omega) | fail) only [push_cast, ↓reduceIte, Nat.reduceEqDiff, Nat.reduceAdd, Nat.reduceMul, Nat.reduceSub, Nat.reduceLT, Int.reduceToNat]))
  refine (c_impl_words b.size (by omega) (by omega)).call ?_
  (try (simp (disch := first | omega | (simp <;> omega) | fail) only [push_cast, ↓reduceIte, Nat.reduceEqDiff, Nat.reduceAdd, Nat.reduceMul, Nat.reduceSub, Nat.reduceLT, Int.reduceToNat]))
  first | refine goC_split (fun hc => ?_) (fun hc => ?_) | refine cnd_split (fun hc => ?_) (fun hc => ?_)
  · (try (simp only [decide_eq_true_eq, decide_eq_false_iff_not, Bool.not_eq_true', Bool.not_eq_false', Bool.and_eq_true, Bool.or_eq_true, Int.not_lt, Int.not_le] at hc)); (try (simp (disch := first | omega | (simp <;> omega) | fail) only [push_cast, ↓reduceIte, Nat.reduceEqDiff, Nat.reduceAdd, Nat.reduceMul, Nat.reduceSub, Nat.reduceLT, Int.reduceToNat]))
    all_goals (try simp [hc])
  (try (simp only [decide_eq_true_eq, decide_eq_false_iff_not, Bool.not_eq_true', Bool.not_eq_false', Bool.and_eq_true, Bool.or_eq_true, Int.not_lt, Int.not_le] at hc)); (try (simp (disch := first | omega | (simp <;> omega) | fail) only [push_cast, ↓reduceIte, Nat.reduceEqDiff, Nat.reduceAdd, Nat.reduceMul, Nat.reduceSub, Nat.reduceLT, Int.reduceToNat]))
  have hc2 : ((lI b.words).length : Int) = (b.size + 15) / 16 := by omega
  refine T_for (lI b.words).length (fun i e h' => Pins e [(1, .adr h.length 0), (20, eI b.words), (21, .int .i64 (lI b.words).length), (22, .int .i64 i)] ∧ (h.length < h'.length ∧ H.cells h' h.length = some (cB b)) ∧ okWords ((lI b.words).take i) = true) ?_ ?_
  · (try (simp (disch := first | omega | (simp <;> omega) | fail) only [push_cast, ↓reduceIte, Nat.reduceEqDiff, Nat.reduceAdd, Nat.reduceMul, Nat.reduceSub, Nat.reduceLT, Int.reduceToNat]))
    all_goals (try simp [okWords, cB])
  rintro i e h' hi ⟨hp, ⟨hlt, hbox⟩, ha⟩
  refine T_pins hp fun e => ?_
  (try (simp (disch := first | omega | (simp <;> omega) | fail) only [push_cast, ↓reduceIte, Nat.reduceEqDiff, Nat.reduceAdd, Nat.reduceMul, Nat.reduceSub, Nat.reduceLT, Int.reduceToNat, hbox]))
  first | refine goC_split (fun hd => ?_) (fun hd => ?_) | refine cnd_split (fun hd => ?_) (fun hd => ?_)
  · (try (simp only [decide_eq_true_eq, decide_eq_false_iff_not, Bool.not_eq_true', Bool.not_eq_false', Bool.and_eq_true, Bool.or_eq_true, Int.not_lt, Int.not_le] at hd)); (try (simp (disch := first | omega | (simp <;> omega) | fail) only [push_cast, ↓reduceIte, Nat.reduceEqDiff, Nat.reduceAdd, Nat.reduceMul, Nat.reduceSub, Nat.reduceLT, Int.reduceToNat]))
    have hi2 : i < (lI b.words).length := by omega
    (try (simp (disch := first | omega | (simp <;> omega) | fail) only [push_cast, ↓reduceIte, Nat.reduceEqDiff, Nat.reduceAdd, Nat.reduceMul, Nat.reduceSub, Nat.reduceLT, Int.reduceToNat, hbox]))
    refine (c_impl_in _ _ _).call ?_
    have hn : okWords ((lI b.words).take (i + 1)) = (decide (0 ≤ (lI b.words).getD i 0) && decide ((lI b.words).getD i 0 ≤ 65535)) := by
      unfold okWords at ha ⊢
      rw [List.take_add_one, List.all_append, ha]
      simp [hi2]
    cases hk : (decide (0 ≤ (lI b.words).getD i 0) && decide ((lI b.words).getD i 0 ≤ 65535))
    · have hno : okWords (lI b.words) = false := by
        unfold okWords
        rw [List.all_eq_false]
        exact ⟨(lI b.words).getD i 0, by simp [hi2], by rw [hk]; simp⟩
      (try (simp (disch := first | omega | (simp <;> omega) | fail) only [push_cast, ↓reduceIte, Nat.reduceEqDiff, Nat.reduceAdd, Nat.reduceMul, Nat.reduceSub, Nat.reduceLT, Int.reduceToNat, hbox]))
      rw [hno]
      all_goals (try simp)
    · (try (simp (disch := first | omega | (simp <;> omega) | fail) only [push_cast, ↓reduceIte, Nat.reduceEqDiff, Nat.reduceAdd, Nat.reduceMul, Nat.reduceSub, Nat.reduceLT, Int.reduceToNat, hbox]))
      rw [hn, hk]
      all_goals (try simp)
      all_goals (try exact hbox)
  · (try (simp only [decide_eq_true_eq, decide_eq_false_iff_not, Bool.not_eq_true', Bool.not_eq_false', Bool.and_eq_true, Bool.or_eq_true, Int.not_lt, Int.not_le] at hd)); (try (simp (disch := first | omega | (simp <;> omega) | fail) only [push_cast, ↓reduceIte, Nat.reduceEqDiff, Nat.reduceAdd, Nat.reduceMul, Nat.reduceSub, Nat.reduceLT, Int.reduceToNat]))
    have he : (lI b.words).take i = lI b.words := List.take_of_length_le (by omega)
    rw [he] at ha
    have hdec : decide (((lI b.words).length : Int) = (b.size + 15) / 16) = true := by simp [hc2]
    rw [ha]
    try rw [hdec]
    unfold lastOk
    by_cases hz : b.size % 16 = 0
    · (try (simp (disch := first | omega | (simp <;> omega) | fail) only [push_cast, ↓reduceIte, Nat.reduceEqDiff, Nat.reduceAdd, Nat.reduceMul, Nat.reduceSub, Nat.reduceLT, Int.reduceToNat, hbox, hz]))
      all_goals (try simp)
    · have hln : 1 ≤ (lI b.words).length := by omega
      have hm : 0 ≤ b.size % 16 ∧ b.size % 16 ≤ 15 := by omega
      (try (simp (disch := first | omega | (simp <;> omega) | fail) only [push_cast, ↓reduceIte, Nat.reduceEqDiff, Nat.reduceAdd, Nat.reduceMul, Nat.reduceSub, Nat.reduceLT, Int.reduceToNat, hbox, hz]))
      (first | refine goC_split (fun hc => ?_) (fun hc => ?_) | refine cnd_split (fun hc => ?_) (fun hc => ?_)) <;> ((try (simp (disch := first | omega | (simp <;> omega) | fail) only [push_cast, ↓reduceIte, Nat.reduceEqDiff, Nat.reduceAdd, Nat.reduceMul, Nat.reduceSub, Nat.reduceLT, Int.reduceToNat]))) <;> (try rw [hc])

theorem c_impl_IsSystem_1 (s : Sy) (b : Bt) : Fn Try.prog 91 [eB b, .rad [.int .i64 s.size, eBS s.rows, eO s.right] 0] (· = .bool (!(okRow s.size b))) := by
  refine Fn.of free_bool fun h => ?_
  refine enter (by kernel_rfl) e91 (by kernel_rfl) rfl fun hok => ?_
  simp only [r91, initEnv_2]
  (try (simp (disch := first | omega | (simp <;> omega) | fail) only [push_cast, ↓reduceIte, Nat.reduceEqDiff, Nat.reduceAdd, Nat.reduceMul, Nat.reduceSub, Nat.reduceLT, Int.reduceToNat]))
  refine (c_impl_IsBits b).call ?_
  unfold okRow
  cases hk : okBt b
  · (try (simp (disch := first | omega | (simp <;> omega) | fail) only [push_cast, ↓reduceIte, Nat.reduceEqDiff, Nat.reduceAdd, Nat.reduceMul, Nat.reduceSub, Nat.reduceLT, Int.reduceToNat]))
    all_goals (try rfl)
  · by_cases hz : b.size = s.size
    · (try (simp (disch := first | omega | (simp <;> omega) | fail) only [push_cast, ↓reduceIte, Nat.reduceEqDiff, Nat.reduceAdd, Nat.reduceMul, Nat.reduceSub, Nat.reduceLT, Int.reduceToNat, hz]))
      all_goals (try simp)
    · (try (simp (disch := first | omega | (simp <;> omega) | fail) only [push_cast, ↓reduceIte, Nat.reduceEqDiff, Nat.reduceAdd, Nat.reduceMul, Nat.reduceSub, Nat.reduceLT, Int.reduceToNat, hz]))
      all_goals (try simp [hz])

theorem c_impl_IsSystem (s : Sy) : Fn Try.prog 50 [eSy s] (· = .bool (okSy s)) := by
  refine Fn.of free_bool fun h => ?_
  refine enter (by kernel_rfl) e50 (by kernel_rfl) rfl fun hok => ?_
  simp only [r50, initEnv_1]
  (try (simp (disch := first | omega | (simp <;> omega) | fail) only [push_cast, ↓reduceIte, Nat.reduceEqDiff, Nat.reduceAdd, Nat.reduceMul, Nat.reduceSub, Nat.reduceLT, Int.reduceToNat]))
  refine (c_ContainsFunc_Bits s.rows _ h.length [.int .i64 s.size, eBS s.rows, eO s.right] (fun b => !(okRow s.size b)) (fun x => c_impl_IsSystem_1 s x) (free_cons_ free_int (free_cons_ free_eBS (free_cons_ free_eO free_nil_))) _ (by rw [cells_h0]; rfl)).mono (fun x h' hx => ?_) (fun _ _ h => h.elim)
  obtain ⟨rfl, rfl⟩ := hx
  have hm : ((lB s.rows).all fun m => !!(okRow s.size m)) = (lB s.rows).all (okRow s.size) := by
    simp only [Bool.not_not]
  rw [hm]
  unfold okSy
  cases h0 : (lB s.rows).all (okRow s.size)
  · (try (simp (disch := first | omega | (simp <;> omega) | fail) only [push_cast, ↓reduceIte, Nat.reduceEqDiff, Nat.reduceAdd, Nat.reduceMul, Nat.reduceSub, Nat.reduceLT, Int.reduceToNat]))
    all_goals (try simp)
  (try (simp (disch := first | omega | (simp <;> omega) | fail) only [push_cast, ↓reduceIte, Nat.reduceEqDiff, Nat.reduceAdd, Nat.reduceMul, Nat.reduceSub, Nat.reduceLT, Int.reduceToNat]))
  refine (c_impl_in _ _ _).call ?_
  cases h1 : (decide (1 ≤ s.size) && decide (s.size ≤ 72))
  · (try (simp (disch := first | omega | (simp <;> omega) | fail) only [push_cast, ↓reduceIte, Nat.reduceEqDiff, Nat.reduceAdd, Nat.reduceMul, Nat.reduceSub, Nat.reduceLT, Int.reduceToNat]))
  by_cases h2 : ((lB s.rows).length : Int) ≤ 40
  · by_cases h3 : ((lO s.right).length : Int) = (lB s.rows).length
    · (try (simp (disch := first | omega | (simp <;> omega) | fail) only [push_cast, ↓reduceIte, Nat.reduceEqDiff, Nat.reduceAdd, Nat.reduceMul, Nat.reduceSub, Nat.reduceLT, Int.reduceToNat, h2, h3]))
      all_goals (try simp)
    · (try (simp (disch := first | omega | (simp <;> omega) | fail) only [push_cast, ↓reduceIte, Nat.reduceEqDiff, Nat.reduceAdd, Nat.reduceMul, Nat.reduceSub, Nat.reduceLT, Int.reduceToNat, h2, h3]))
      all_goals (try simp [h3])
  · (try (simp (disch := first | omega | (simp <;> omega) | fail) only [push_cast, ↓reduceIte, Nat.reduceEqDiff, Nat.reduceAdd, Nat.reduceMul, Nat.reduceSub, Nat.reduceLT, Int.reduceToNat, h2]))
    all_goals (try simp [h2])

end Go.Proofs.Ytgkdnpigbpkehaa.M
