/-
  What the functions return.
-/
import Derived.Test.YtmcfkedagmfhcaaFe
namespace Go.Proofs.Ytmcfkedagmfhcaa.M
open Go Go.RowKit
set_option linter.unusedVariables false
set_option linter.unusedSimpArgs false
set_option maxRecDepth 4000

/-- What is left of a budget. -/
def szv (left : Int) (w : Nat) : Int := if (w : Int) ≤ left then left - w else -1
theorem szv_ok {left : Int} {w : Nat} (h : 0 ≤ szv left w) : (w : Int) ≤ left := by
  unfold szv at h
  split at h <;> omega
def wS (a : Option (List Str)) : Nat := (lS a).length + ((lS a).map List.length).sum
theorem sum_take_le (l : List Nat) (i : Nat) : (l.take i).sum ≤ l.sum := by
  have := congrArg List.sum (List.take_append_drop i l)
  rw [List.sum_append] at this
  omega
theorem sum_take_succ {l : List Nat} {i : Nat} (hi : i < l.length) : (l.take (i + 1)).sum = (l.take i).sum + l.getD i 0 := by
  rw [List.take_add_one, List.sum_append]
  simp [hi]

theorem c_laws_szIntS (a : Option (List Int)) (left : Int) (hl0 : 0 ≤ left) (hleft : left ≤ 1048576) : Fn Try.prog 57 [eI a, .int .i64 left] (· = .int .i64 (szv left (lI a).length)) := by
  refine Fn.of free_int fun h => ?_
  refine enter (by kernel_rfl) e57 (by kernel_rfl) rfl fun hok => ?_
  simp only [r57, initEnv_2]
  have hlen := ok_eI (okV_0 hok)
  (try (simp (disch := first | omega | (simp <;> omega) | fail) only [push_cast, ↓reduceIte, Nat.reduceEqDiff, Nat.reduceAdd, Nat.reduceMul, Nat.reduceSub, Nat.reduceLT, Int.reduceToNat]))
  first | refine goC_split (fun hc => ?_) (fun hc => ?_) | refine cnd_split (fun hc => ?_) (fun hc => ?_)
  · (try (simp only [decide_eq_true_eq, decide_eq_false_iff_not, Bool.not_eq_true', Bool.not_eq_false', Bool.and_eq_true, Bool.or_eq_true, Int.not_lt, Int.not_le] at hc)); (try (simp (disch := first | omega | (simp <;> omega) | fail) only [push_cast, ↓reduceIte, Nat.reduceEqDiff, Nat.reduceAdd, Nat.reduceMul, Nat.reduceSub, Nat.reduceLT, Int.reduceToNat]))
    rw [szv, if_neg (by omega)]
  · (try (simp only [decide_eq_true_eq, decide_eq_false_iff_not, Bool.not_eq_true', Bool.not_eq_false', Bool.and_eq_true, Bool.or_eq_true, Int.not_lt, Int.not_le] at hc)); (try (simp (disch := first | omega | (simp <;> omega) | fail) only [push_cast, ↓reduceIte, Nat.reduceEqDiff, Nat.reduceAdd, Nat.reduceMul, Nat.reduceSub, Nat.reduceLT, Int.reduceToNat]))
    rw [szv, if_pos (by omega)]

--eng lenA_ePS iaddr_ePS eP ld_P get_P0 get_P1 get_P2 cellsOf_ePS one_ePS cP
structure Pd where
  seed : Int
  seg : Int
  marks : Option (List Int)
  deriving Inhabited
def cP (p : Pd) : List AV := [.int .i64 p.seed, .int .i64 p.seg, eI p.marks]
theorem cP_len (p : Pd) : (cP p).length = 3 := rfl
def eP (p : Pd) : AV := .agg (cP p)
def ePS : Option (List Pd) → AV
  | none => .nils
  | some l => .ro 3 (l.flatMap cP) l.length
def lP : Option (List Pd) → List Pd
  | none => []
  | some l => l
theorem lenA_ePS {l : Option (List Pd)} : lenA (ePS l) = some (.int .i64 (lP l).length) := by cases l <;> rfl
theorem iaddr_ePS {l : Option (List Pd)} {k : IntKind} {n : Int} (h1 : 0 ≤ n) (h2 : n < (lP l).length) : iaddrA 3 (ePS l) (.int k n) = some (.rad ((lP l).flatMap cP) (n.toNat * 3)) := by
  cases l with
  | none => simp [lP] at h2; omega
  | some l => exact iaddrA_ro h1 h2
theorem ld_P {l : List Pd} {i : Nat} (hi : i < l.length) : ld true 3 (l.flatMap cP) (i * 3) = some (.agg (cP (l.getD i default))) := ld_row cP_len default hi
theorem get_P0 {l : List Pd} {i : Nat} (hi : i < l.length) : (l.flatMap cP)[i * 3]? = some (.int .i64 (l.getD i default).seed) := flatMap_get cP_len default (k := 0) hi (by omega)
theorem get_P1 {l : List Pd} {i : Nat} (hi : i < l.length) : (l.flatMap cP)[i * 3 + 1]? = some (.int .i64 (l.getD i default).seg) := flatMap_get cP_len default (k := 1) hi (by omega)
theorem get_P2 {l : List Pd} {i : Nat} (hi : i < l.length) : (l.flatMap cP)[i * 3 + 2]? = some (eI (l.getD i default).marks) := flatMap_get cP_len default (k := 2) hi (by omega)
theorem one_ePS {l : Option (List Pd)} : one (ePS l) = true := by cases l <;> rfl
theorem cellsOf_ePS {l : Option (List Pd)} : cellsOf (ePS l) = [ePS l] := by cases l <;> rfl
theorem free_cP {p : Pd} : ∀ c ∈ cP p, Free c := free_cons_ free_int (free_cons_ free_int (free_cons_ free_eI free_nil_))
theorem free_eP {p : Pd} : Free (eP p) := free_agg free_cP
theorem free_ePS {l : Option (List Pd)} : Free (ePS l) := by
  cases l with
  | none => exact free_nils
  | some l => exact free_ro (fun c hc => by obtain ⟨p, _, hp⟩ := List.mem_flatMap.1 hc; exact free_cP c hp)
theorem ok_ePS {l : Option (List Pd)} (h : OkV (ePS l)) : (lP l).length ≤ 9223372036854775807 := by
  cases l with
  | none => simp [lP]
  | some l => exact h.ro.1
def wPS (a : Option (List Pd)) : Nat := (lP a).length + ((lP a).map fun p => (lI p.marks).length).sum
/-- A copy of it. -/
def cpP (p : Pd) : Pd := ⟨p.seed, p.seg, some (lI p.marks)⟩
def cPc (p : Pd) : List AV := cP (cpP p)
theorem cPc_len (p : Pd) : (cPc p).length = 3 := rfl

attribute [push_cast] lenA_ePS iaddr_ePS eP ld_P get_P0 get_P1 get_P2 cellsOf_ePS one_ePS cP
theorem c_laws_szPeeled (p : Pd) (left : Int) (hl0 : 0 ≤ left) (hleft : left ≤ 1048576) : Fn Try.prog 90 [eP p, .int .i64 left] (· = .int .i64 (szv left (lI p.marks).length)) := by
  refine Fn.of free_int fun h => ?_
  refine enter (by kernel_rfl) e90 (by kernel_rfl) rfl fun hok => ?_
  simp only [r90, initEnv_2]
  (try (simp (disch := first | omega | (simp <;> omega) | fail) only [push_cast, ↓reduceIte, Nat.reduceEqDiff, Nat.reduceAdd, Nat.reduceMul, Nat.reduceSub, Nat.reduceLT, Int.reduceToNat]))
  refine (c_laws_szIntS _ _ hl0 hleft).call ?_
  (try (simp (disch := first | omega | (simp <;> omega) | fail) only [push_cast, ↓reduceIte, Nat.reduceEqDiff, Nat.reduceAdd, Nat.reduceMul, Nat.reduceSub, Nat.reduceLT, Int.reduceToNat]))
  first | refine goC_split (fun hc => ?_) (fun hc => ?_) | refine cnd_split (fun hc => ?_) (fun hc => ?_)
  · (try (simp only [decide_eq_true_eq, decide_eq_false_iff_not, Bool.not_eq_true', Bool.not_eq_false', Bool.and_eq_true, Bool.or_eq_true, Int.not_lt, Int.not_le] at hc)); (try (simp (disch := first | omega | (simp <;> omega) | fail) only [push_cast, ↓reduceIte, Nat.reduceEqDiff, Nat.reduceAdd, Nat.reduceMul, Nat.reduceSub, Nat.reduceLT, Int.reduceToNat]))
    unfold szv at hc ⊢
    split at hc
    · omega
    · rename_i hn
      rw [if_neg hn]
  · (try (simp only [decide_eq_true_eq, decide_eq_false_iff_not, Bool.not_eq_true', Bool.not_eq_false', Bool.and_eq_true, Bool.or_eq_true, Int.not_lt, Int.not_le] at hc)); (try (simp (disch := first | omega | (simp <;> omega) | fail) only [push_cast, ↓reduceIte, Nat.reduceEqDiff, Nat.reduceAdd, Nat.reduceMul, Nat.reduceSub, Nat.reduceLT, Int.reduceToNat]))

theorem c_laws_szPeeledS (a : Option (List Pd)) (left : Int) (hl0 : 0 ≤ left) (hleft : left ≤ 1048576) : Fn Try.prog 56 [ePS a, .int .i64 left] (· = .int .i64 (szv left (wPS a))) := by
  refine Fn.of free_int fun h => ?_
  refine enter (by kernel_rfl) e56 (by kernel_rfl) rfl fun hok => ?_
  simp only [r56, initEnv_2]
  have hlen := ok_ePS (okV_0 hok)
  (try (simp (disch := first | omega | (simp <;> omega) | fail) only [push_cast, ↓reduceIte, Nat.reduceEqDiff, Nat.reduceAdd, Nat.reduceMul, Nat.reduceSub, Nat.reduceLT, Int.reduceToNat]))
  first | refine goC_split (fun hc => ?_) (fun hc => ?_) | refine cnd_split (fun hc => ?_) (fun hc => ?_)
  · (try (simp only [decide_eq_true_eq, decide_eq_false_iff_not, Bool.not_eq_true', Bool.not_eq_false', Bool.and_eq_true, Bool.or_eq_true, Int.not_lt, Int.not_le] at hc)); (try (simp (disch := first | omega | (simp <;> omega) | fail) only [push_cast, ↓reduceIte, Nat.reduceEqDiff, Nat.reduceAdd, Nat.reduceMul, Nat.reduceSub, Nat.reduceLT, Int.reduceToNat]))
    rw [szv, if_neg (by unfold wPS; omega)]
  (try (simp only [decide_eq_true_eq, decide_eq_false_iff_not, Bool.not_eq_true', Bool.not_eq_false', Bool.and_eq_true, Bool.or_eq_true, Int.not_lt, Int.not_le] at hc)); (try (simp (disch := first | omega | (simp <;> omega) | fail) only [push_cast, ↓reduceIte, Nat.reduceEqDiff, Nat.reduceAdd, Nat.reduceMul, Nat.reduceSub, Nat.reduceLT, Int.reduceToNat]))
  refine T_for (lP a).length (fun i e h' => Pins e [(0, ePS a), (1, .int .i64 (left - (lP a).length - (((lP a).map fun p => (lI p.marks).length).take i).sum)), (5, .int .i64 i)] ∧ h' = h ∧ (((lP a).length + (((lP a).map fun p => (lI p.marks).length).take i).sum : Nat) : Int) ≤ left) ?_ ?_
  · (try (simp (disch := first | omega | (simp <;> omega) | fail) only [push_cast, ↓reduceIte, Nat.reduceEqDiff, Nat.reduceAdd, Nat.reduceMul, Nat.reduceSub, Nat.reduceLT, Int.reduceToNat]))
    all_goals (try simp)
    all_goals (try omega)
  rintro i e h' hi ⟨hp, rfl, hle⟩
  refine T_pins hp fun e => ?_
  (try (simp (disch := first | omega | (simp <;> omega) | fail) only [push_cast, ↓reduceIte, Nat.reduceEqDiff, Nat.reduceAdd, Nat.reduceMul, Nat.reduceSub, Nat.reduceLT, Int.reduceToNat]))
  first | refine goC_split (fun hc => ?_) (fun hc => ?_) | refine cnd_split (fun hc => ?_) (fun hc => ?_)
  · (try (simp only [decide_eq_true_eq, decide_eq_false_iff_not, Bool.not_eq_true', Bool.not_eq_false', Bool.and_eq_true, Bool.or_eq_true, Int.not_lt, Int.not_le] at hc)); (try (simp (disch := first | omega | (simp <;> omega) | fail) only [push_cast, ↓reduceIte, Nat.reduceEqDiff, Nat.reduceAdd, Nat.reduceMul, Nat.reduceSub, Nat.reduceLT, Int.reduceToNat]))
    have hi : i < (lP a).length := by omega
    have hts : ((((lP a).map fun p => (lI p.marks).length)).take (i + 1)).sum = (((lP a).map fun p => (lI p.marks).length).take i).sum + (lI ((lP a).getD i default).marks).length := by
      rw [sum_take_succ (by simpa using hi)]
      simp [hi]
    have hle3 := sum_take_le ((lP a).map fun p => (lI p.marks).length) (i + 1)
    refine (c_laws_szPeeled ((lP a).getD i default) _ (by omega) (by omega)).call ?_
    (try (simp (disch := first | omega | (simp <;> omega) | fail) only [push_cast, ↓reduceIte, Nat.reduceEqDiff, Nat.reduceAdd, Nat.reduceMul, Nat.reduceSub, Nat.reduceLT, Int.reduceToNat]))
    first | refine goC_split (fun hc => ?_) (fun hc => ?_) | refine cnd_split (fun hc => ?_) (fun hc => ?_)
    · (try (simp only [decide_eq_true_eq, decide_eq_false_iff_not, Bool.not_eq_true', Bool.not_eq_false', Bool.and_eq_true, Bool.or_eq_true, Int.not_lt, Int.not_le] at hc)); (try (simp (disch := first | omega | (simp <;> omega) | fail) only [push_cast, ↓reduceIte, Nat.reduceEqDiff, Nat.reduceAdd, Nat.reduceMul, Nat.reduceSub, Nat.reduceLT, Int.reduceToNat]))
      unfold szv at hc
      rw [szv, if_neg (by unfold wPS; split at hc <;> omega)]
    · (try (simp only [decide_eq_true_eq, decide_eq_false_iff_not, Bool.not_eq_true', Bool.not_eq_false', Bool.and_eq_true, Bool.or_eq_true, Int.not_lt, Int.not_le] at hc)); (try (simp (disch := first | omega | (simp <;> omega) | fail) only [push_cast, ↓reduceIte, Nat.reduceEqDiff, Nat.reduceAdd, Nat.reduceMul, Nat.reduceSub, Nat.reduceLT, Int.reduceToNat]))
      unfold szv at hc
      split at hc
      · rename_i hn
        rw [szv, if_pos hn, hts]
        (try (simp (disch := first | omega | (simp <;> omega) | fail) only [push_cast, ↓reduceIte, Nat.reduceEqDiff, Nat.reduceAdd, Nat.reduceMul, Nat.reduceSub, Nat.reduceLT, Int.reduceToNat]))
      · omega
  · (try (simp only [decide_eq_true_eq, decide_eq_false_iff_not, Bool.not_eq_true', Bool.not_eq_false', Bool.and_eq_true, Bool.or_eq_true, Int.not_lt, Int.not_le] at hc)); (try (simp (disch := first | omega | (simp <;> omega) | fail) only [push_cast, ↓reduceIte, Nat.reduceEqDiff, Nat.reduceAdd, Nat.reduceMul, Nat.reduceSub, Nat.reduceLT, Int.reduceToNat]))
    have ht : (((lP a).map fun p => (lI p.marks).length).take i).sum = ((lP a).map fun p => (lI p.marks).length).sum := by
      rw [List.take_of_length_le (by simp; omega)]
    rw [szv, if_pos (by unfold wPS; omega)]
    unfold wPS
    (try (simp (disch := first | omega | (simp <;> omega) | fail) only [push_cast, ↓reduceIte, Nat.reduceEqDiff, Nat.reduceAdd, Nat.reduceMul, Nat.reduceSub, Nat.reduceLT, Int.reduceToNat]))

def sameP (p q : Pd) : Bool := decide (p.seed = q.seed) && (decide (p.seg = q.seg) && decide (lI p.marks = lI q.marks))
theorem sameP_cp (p : Pd) : sameP (cpP p) (cpP p) = true := by simp [sameP]
/-- The first so many are the same. -/
def sameFrom (l m : List Pd) : Nat → Bool
  | 0 => true
  | i + 1 => sameFrom l m i && sameP (l.getD i default) (m.getD i default)
theorem sameFrom_false {l m : List Pd} {i : Nat} : ∀ {j}, i ≤ j → sameFrom l m i = false → sameFrom l m j = false
  | 0, h, hf => by
    rw [show i = 0 by omega] at hf
    exact hf
  | j + 1, h, hf => by
    by_cases hi : i = j + 1
    · rw [← hi]
      exact hf
    · simp [sameFrom, sameFrom_false (show i ≤ j by omega) hf]
def samePS (l m : List Pd) : Bool := decide ((l.length : Int) = m.length) && sameFrom l m l.length
theorem samePS_cp (l : List Pd) : samePS (l.map cpP) (l.map cpP) = true := by
  have : ∀ n, sameFrom (l.map cpP) (l.map cpP) n = true := by
    intro n
    induction n with
    | zero => rfl
    | succ n ih => simp [sameFrom, ih, sameP]
  simp [samePS, this]

--eng eSh
structure Sh_ where
  seed : Int
  parts : Option (List Pd)
  offs : Option (List Int)
def eSh (s : Sh_) : AV := .agg [.int .i64 s.seed, ePS s.parts, eI s.offs]
def cpSh (s : Sh_) : Sh_ := ⟨s.seed, some ((lP s.parts).map cpP), some (lI s.offs)⟩
theorem free_eSh {s : Sh_} : Free (eSh s) := free_agg (free_cons_ free_int (free_cons_ free_ePS (free_cons_ free_eI free_nil_)))
def wSh (s : Sh_) : Nat := wPS s.parts + (lI s.offs).length

attribute [push_cast] eSh
theorem c_laws_szSharded (s : Sh_) (left : Int) (hl0 : 0 ≤ left) (hleft : left ≤ 1048576) : Fn Try.prog 20 [eSh s, .int .i64 left] (· = .int .i64 (szv left (wSh s))) := by
  refine Fn.of free_int fun h => ?_
  refine enter (by kernel_rfl) e20 (by kernel_rfl) rfl fun hok => ?_
  simp only [r20, initEnv_2]
  (try (simp (disch := first | omega | (simp <;> omega) | fail) only [push_cast, ↓reduceIte, Nat.reduceEqDiff, Nat.reduceAdd, Nat.reduceMul, Nat.reduceSub, Nat.reduceLT, Int.reduceToNat]))
  refine (c_laws_szPeeledS _ _ hl0 hleft).call ?_
  (try (simp (disch := first | omega | (simp <;> omega) | fail) only [push_cast, ↓reduceIte, Nat.reduceEqDiff, Nat.reduceAdd, Nat.reduceMul, Nat.reduceSub, Nat.reduceLT, Int.reduceToNat]))
  first | refine goC_split (fun hc => ?_) (fun hc => ?_) | refine cnd_split (fun hc => ?_) (fun hc => ?_)
  · (try (simp only [decide_eq_true_eq, decide_eq_false_iff_not, Bool.not_eq_true', Bool.not_eq_false', Bool.and_eq_true, Bool.or_eq_true, Int.not_lt, Int.not_le] at hc)); (try (simp (disch := first | omega | (simp <;> omega) | fail) only [push_cast, ↓reduceIte, Nat.reduceEqDiff, Nat.reduceAdd, Nat.reduceMul, Nat.reduceSub, Nat.reduceLT, Int.reduceToNat]))
    unfold szv at hc ⊢
    unfold wSh
    split at hc
    · omega
    · rw [if_neg (by omega)]
  (try (simp only [decide_eq_true_eq, decide_eq_false_iff_not, Bool.not_eq_true', Bool.not_eq_false', Bool.and_eq_true, Bool.or_eq_true, Int.not_lt, Int.not_le] at hc)); (try (simp (disch := first | omega | (simp <;> omega) | fail) only [push_cast, ↓reduceIte, Nat.reduceEqDiff, Nat.reduceAdd, Nat.reduceMul, Nat.reduceSub, Nat.reduceLT, Int.reduceToNat]))
  refine (c_laws_szIntS _ _ hc (by unfold szv; split <;> omega)).call ?_
  (try (simp (disch := first | omega | (simp <;> omega) | fail) only [push_cast, ↓reduceIte, Nat.reduceEqDiff, Nat.reduceAdd, Nat.reduceMul, Nat.reduceSub, Nat.reduceLT, Int.reduceToNat]))
  first | refine goC_split (fun hd => ?_) (fun hd => ?_) | refine cnd_split (fun hd => ?_) (fun hd => ?_)
  · (try (simp only [decide_eq_true_eq, decide_eq_false_iff_not, Bool.not_eq_true', Bool.not_eq_false', Bool.and_eq_true, Bool.or_eq_true, Int.not_lt, Int.not_le] at hd)); (try (simp (disch := first | omega | (simp <;> omega) | fail) only [push_cast, ↓reduceIte, Nat.reduceEqDiff, Nat.reduceAdd, Nat.reduceMul, Nat.reduceSub, Nat.reduceLT, Int.reduceToNat]))
    unfold szv at hc hd ⊢
    unfold wSh
    split at hc
    · split at hd
      · omega
      · rw [if_neg (by omega)]
    · omega
  · (try (simp only [decide_eq_true_eq, decide_eq_false_iff_not, Bool.not_eq_true', Bool.not_eq_false', Bool.and_eq_true, Bool.or_eq_true, Int.not_lt, Int.not_le] at hd)); (try (simp (disch := first | omega | (simp <;> omega) | fail) only [push_cast, ↓reduceIte, Nat.reduceEqDiff, Nat.reduceAdd, Nat.reduceMul, Nat.reduceSub, Nat.reduceLT, Int.reduceToNat]))
    unfold szv at hc hd ⊢
    unfold wSh
    split at hc
    · rename_i h1
      rw [if_pos h1] at hd ⊢
      split at hd
      · rename_i h2
        rw [if_pos h2, if_pos (by omega)]
        (try (simp (disch := first | omega | (simp <;> omega) | fail) only [push_cast, ↓reduceIte, Nat.reduceEqDiff, Nat.reduceAdd, Nat.reduceMul, Nat.reduceSub, Nat.reduceLT, Int.reduceToNat]))
      · omega
    · omega

theorem c_laws_szStringS (a : Option (List Str)) (left : Int) (hl0 : 0 ≤ left) (hleft : left ≤ 1048576) : Fn Try.prog 11 [eS a, .int .i64 left] (· = .int .i64 (szv left (wS a))) := by
  refine Fn.of free_int fun h => ?_
  refine enter (by kernel_rfl) e11 (by kernel_rfl) rfl fun hok => ?_
  simp only [r11, initEnv_2]
  have hlen := ok_eS (okV_0 hok)
  have hstr := ok_eS_str (okV_0 hok)
  (try (simp (disch := first | omega | (simp <;> omega) | fail) only [push_cast, ↓reduceIte, Nat.reduceEqDiff, Nat.reduceAdd, Nat.reduceMul, Nat.reduceSub, Nat.reduceLT, Int.reduceToNat]))
  first | refine goC_split (fun hc => ?_) (fun hc => ?_) | refine cnd_split (fun hc => ?_) (fun hc => ?_)
  · (try (simp only [decide_eq_true_eq, decide_eq_false_iff_not, Bool.not_eq_true', Bool.not_eq_false', Bool.and_eq_true, Bool.or_eq_true, Int.not_lt, Int.not_le] at hc)); (try (simp (disch := first | omega | (simp <;> omega) | fail) only [push_cast, ↓reduceIte, Nat.reduceEqDiff, Nat.reduceAdd, Nat.reduceMul, Nat.reduceSub, Nat.reduceLT, Int.reduceToNat]))
    rw [szv, if_neg (by unfold wS; omega)]
  (try (simp only [decide_eq_true_eq, decide_eq_false_iff_not, Bool.not_eq_true', Bool.not_eq_false', Bool.and_eq_true, Bool.or_eq_true, Int.not_lt, Int.not_le] at hc)); (try (simp (disch := first | omega | (simp <;> omega) | fail) only [push_cast, ↓reduceIte, Nat.reduceEqDiff, Nat.reduceAdd, Nat.reduceMul, Nat.reduceSub, Nat.reduceLT, Int.reduceToNat]))
  refine T_for (lS a).length (fun i e h' => Pins e [(0, eS a), (1, .int .i64 (left - (lS a).length - (((lS a).map List.length).take i).sum)), (5, .int .i64 i)] ∧ h' = h ∧ (((lS a).length + (((lS a).map List.length).take i).sum : Nat) : Int) ≤ left) ?_ ?_
  · (try (simp (disch := first | omega | (simp <;> omega) | fail) only [push_cast, ↓reduceIte, Nat.reduceEqDiff, Nat.reduceAdd, Nat.reduceMul, Nat.reduceSub, Nat.reduceLT, Int.reduceToNat]))
    all_goals (try simp)
    all_goals (try omega)
  rintro i e h' hi ⟨hp, rfl, hle⟩
  refine T_pins hp fun e => ?_
  have hle2 := sum_take_le ((lS a).map List.length) i
  (try (simp (disch := first | omega | (simp <;> omega) | fail) only [push_cast, ↓reduceIte, Nat.reduceEqDiff, Nat.reduceAdd, Nat.reduceMul, Nat.reduceSub, Nat.reduceLT, Int.reduceToNat]))
  first | refine goC_split (fun hc => ?_) (fun hc => ?_) | refine cnd_split (fun hc => ?_) (fun hc => ?_)
  · (try (simp only [decide_eq_true_eq, decide_eq_false_iff_not, Bool.not_eq_true', Bool.not_eq_false', Bool.and_eq_true, Bool.or_eq_true, Int.not_lt, Int.not_le] at hc)); (try (simp (disch := first | omega | (simp <;> omega) | fail) only [push_cast, ↓reduceIte, Nat.reduceEqDiff, Nat.reduceAdd, Nat.reduceMul, Nat.reduceSub, Nat.reduceLT, Int.reduceToNat]))
    have hs := hstr ((lS a).getD i []) (by simp [show i < (lS a).length by omega])
    have hts : ((((lS a).map List.length)).take (i + 1)).sum = (((lS a).map List.length).take i).sum + ((lS a).getD i []).length := by
      rw [sum_take_succ (by simp; omega)]
      simp [show i < (lS a).length by omega]
    have hle3 := sum_take_le ((lS a).map List.length) (i + 1)
    (try (simp (disch := first | omega | (simp <;> omega) | fail) only [push_cast, ↓reduceIte, Nat.reduceEqDiff, Nat.reduceAdd, Nat.reduceMul, Nat.reduceSub, Nat.reduceLT, Int.reduceToNat]))
    first | refine goC_split (fun hc => ?_) (fun hc => ?_) | refine cnd_split (fun hc => ?_) (fun hc => ?_)
    · (try (simp only [decide_eq_true_eq, decide_eq_false_iff_not, Bool.not_eq_true', Bool.not_eq_false', Bool.and_eq_true, Bool.or_eq_true, Int.not_lt, Int.not_le] at hc)); (try (simp (disch := first | omega | (simp <;> omega) | fail) only [push_cast, ↓reduceIte, Nat.reduceEqDiff, Nat.reduceAdd, Nat.reduceMul, Nat.reduceSub, Nat.reduceLT, Int.reduceToNat]))
      rw [szv, if_neg (by unfold wS; omega)]
    · (try (simp only [decide_eq_true_eq, decide_eq_false_iff_not, Bool.not_eq_true', Bool.not_eq_false', Bool.and_eq_true, Bool.or_eq_true, Int.not_lt, Int.not_le] at hc)); (try (simp (disch := first | omega | (simp <;> omega) | fail) only [push_cast, ↓reduceIte, Nat.reduceEqDiff, Nat.reduceAdd, Nat.reduceMul, Nat.reduceSub, Nat.reduceLT, Int.reduceToNat]))
  · (try (simp only [decide_eq_true_eq, decide_eq_false_iff_not, Bool.not_eq_true', Bool.not_eq_false', Bool.and_eq_true, Bool.or_eq_true, Int.not_lt, Int.not_le] at hc)); (try (simp (disch := first | omega | (simp <;> omega) | fail) only [push_cast, ↓reduceIte, Nat.reduceEqDiff, Nat.reduceAdd, Nat.reduceMul, Nat.reduceSub, Nat.reduceLT, Int.reduceToNat]))
    have ht : (((lS a).map List.length).take i).sum = ((lS a).map List.length).sum := by
      rw [List.take_of_length_le (by simp; omega)]
    congr 1
    rw [szv, if_pos (by unfold wS; omega)]
    unfold wS
    omega

theorem c_laws_toIntS (a : Option (List Int)) (ha : (lI a).length ≤ 1048576) : Fn Try.prog 60 [eI a] (· = eI (some (lI a))) := by
  refine Fn.froze fun h => ?_
  refine enter (by kernel_rfl) e60 (by kernel_rfl) rfl fun hok => ?_
  simp only [r60, initEnv_1]
  (try (simp (disch := first | omega | (simp <;> omega) | fail) only [push_cast, ↓reduceIte, Nat.reduceEqDiff, Nat.reduceAdd, Nat.reduceMul, Nat.reduceSub, Nat.reduceLT, Int.reduceToNat]))
  refine T_for (lI a).length (fun i e h' => Pins e [(0, eI a), (3, .sl h.length 0 1 (lI a).length (lI a).length), (4, .int .i64 i)] ∧ h' = h ++ [some (.cells (fill (.int .i64) (lI a) (.int .i64 0) i))]) ?_ ?_
  · (try (simp (disch := first | omega | (simp <;> omega) | fail) only [push_cast, ↓reduceIte, Nat.reduceEqDiff, Nat.reduceAdd, Nat.reduceMul, Nat.reduceSub, Nat.reduceLT, Int.reduceToNat, fill_0]))
  rintro i e h' hi ⟨hp, rfl⟩
  refine T_pins hp fun e => ?_
  (try (simp (disch := first | omega | (simp <;> omega) | fail) only [push_cast, ↓reduceIte, Nat.reduceEqDiff, Nat.reduceAdd, Nat.reduceMul, Nat.reduceSub, Nat.reduceLT, Int.reduceToNat]))
  first | refine goC_split (fun hc => ?_) (fun hc => ?_) | refine cnd_split (fun hc => ?_) (fun hc => ?_)
  · (try (simp only [decide_eq_true_eq, decide_eq_false_iff_not, Bool.not_eq_true', Bool.not_eq_false', Bool.and_eq_true, Bool.or_eq_true, Int.not_lt, Int.not_le] at hc)); (try (simp (disch := first | omega | (simp <;> omega) | fail) only [push_cast, ↓reduceIte, Nat.reduceEqDiff, Nat.reduceAdd, Nat.reduceMul, Nat.reduceSub, Nat.reduceLT, Int.reduceToNat]))
    (try (simp (disch := first | omega | (simp <;> omega) | fail) only [push_cast, ↓reduceIte, Nat.reduceEqDiff, Nat.reduceAdd, Nat.reduceMul, Nat.reduceSub, Nat.reduceLT, Int.reduceToNat, fill_len hi]))
    rw [fill_next (d := 0) (by omega) rfl]
  · (try (simp only [decide_eq_true_eq, decide_eq_false_iff_not, Bool.not_eq_true', Bool.not_eq_false', Bool.and_eq_true, Bool.or_eq_true, Int.not_lt, Int.not_le] at hc)); (try (simp (disch := first | omega | (simp <;> omega) | fail) only [push_cast, ↓reduceIte, Nat.reduceEqDiff, Nat.reduceAdd, Nat.reduceMul, Nat.reduceSub, Nat.reduceLT, Int.reduceToNat]))
    rw [fill_all (by omega)]
    exact vw_all (cs := (lI a).map (.int .i64)) (Nat.le_refl _) (by rw [cells_h0]; rfl) (by simp) (one_map fun _ => rfl) (free_map_ fun _ => free_int)

theorem c_laws_toPeeled (p : Pd) (ha : (lI p.marks).length ≤ 1048576) : Fn Try.prog 93 [eP p] (· = eP (cpP p)) := by
  refine Fn.froze fun h => ?_
  refine enter (by kernel_rfl) e93 (by kernel_rfl) rfl fun hok => ?_
  simp only [r93, initEnv_1]
  (try (simp (disch := first | omega | (simp <;> omega) | fail) only [push_cast, ↓reduceIte, Nat.reduceEqDiff, Nat.reduceAdd, Nat.reduceMul, Nat.reduceSub, Nat.reduceLT, Int.reduceToNat]))
  refine (c_laws_toIntS _ ha).call ?_
  (try (simp (disch := first | omega | (simp <;> omega) | fail) only [push_cast, ↓reduceIte, Nat.reduceEqDiff, Nat.reduceAdd, Nat.reduceMul, Nat.reduceSub, Nat.reduceLT, Int.reduceToNat]))
  exact .free (free_eP (p := cpP p))

theorem c_laws_toPeeledS (a : Option (List Pd)) (ha : wPS a ≤ 1048576) : Fn Try.prog 59 [ePS a] (· = ePS (some ((lP a).map cpP))) := by
  refine Fn.froze fun h => ?_
  refine enter (by kernel_rfl) e59 (by kernel_rfl) rfl fun hok => ?_
  simp only [r59, initEnv_1]
  have ha1 : (lP a).length ≤ 1048576 := by unfold wPS at ha; omega
  have ha2 : ∀ i, i < (lP a).length → (lI ((lP a).getD i default).marks).length ≤ 1048576 := fun i hi => by
    have h1 := sum_take_le ((lP a).map fun p => (lI p.marks).length) (i + 1)
    rw [sum_take_succ (by simpa using hi)] at h1
    unfold wPS at ha
    have : (((lP a).map fun p => (lI p.marks).length)).getD i 0 = (lI ((lP a).getD i default).marks).length := by simp [hi]
    omega
  (try (simp (disch := first | omega | (simp <;> omega) | fail) only [push_cast, ↓reduceIte, Nat.reduceEqDiff, Nat.reduceAdd, Nat.reduceMul, Nat.reduceSub, Nat.reduceLT, Int.reduceToNat]))
  refine T_for (lP a).length (fun i e h' => Pins e [(0, ePS a), (3, .sl h.length 0 3 (lP a).length (lP a).length), (4, .int .i64 i)] ∧ h' = h ++ [some (.cells (fillF cPc (lP a) [.int .i64 0, .int .i64 0, .nils] i))]) ?_ ?_
  · (try (simp (disch := first | omega | (simp <;> omega) | fail) only [push_cast, ↓reduceIte, Nat.reduceEqDiff, Nat.reduceAdd, Nat.reduceMul, Nat.reduceSub, Nat.reduceLT, Int.reduceToNat, fillF_0]))
  rintro i e h' hi ⟨hp, rfl⟩
  refine T_pins hp fun e => ?_
  (try (simp (disch := first | omega | (simp <;> omega) | fail) only [push_cast, ↓reduceIte, Nat.reduceEqDiff, Nat.reduceAdd, Nat.reduceMul, Nat.reduceSub, Nat.reduceLT, Int.reduceToNat]))
  first | refine goC_split (fun hc => ?_) (fun hc => ?_) | refine cnd_split (fun hc => ?_) (fun hc => ?_)
  · (try (simp only [decide_eq_true_eq, decide_eq_false_iff_not, Bool.not_eq_true', Bool.not_eq_false', Bool.and_eq_true, Bool.or_eq_true, Int.not_lt, Int.not_le] at hc)); (try (simp (disch := first | omega | (simp <;> omega) | fail) only [push_cast, ↓reduceIte, Nat.reduceEqDiff, Nat.reduceAdd, Nat.reduceMul, Nat.reduceSub, Nat.reduceLT, Int.reduceToNat]))
    have hi : i < (lP a).length := by omega
    refine (c_laws_toPeeled ((lP a).getD i default) (ha2 i hi)).call ?_
    have hfl : (fillF cPc (lP a) [.int .i64 0, .int .i64 0, .nils] i).length = (lP a).length * 3 := fillF_len cPc_len rfl (Nat.le_of_lt hi)
    (try (simp (disch := first | omega | (simp <;> omega) | fail) only [push_cast, ↓reduceIte, Nat.reduceEqDiff, Nat.reduceAdd, Nat.reduceMul, Nat.reduceSub, Nat.reduceLT, Int.reduceToNat, hfl]))
    exact congrArg (fun c => h ++ [some (AObj.cells c)]) (fillF_next cPc_len rfl (d := default) hi rfl)
  · (try (simp only [decide_eq_true_eq, decide_eq_false_iff_not, Bool.not_eq_true', Bool.not_eq_false', Bool.and_eq_true, Bool.or_eq_true, Int.not_lt, Int.not_le] at hc)); (try (simp (disch := first | omega | (simp <;> omega) | fail) only [push_cast, ↓reduceIte, Nat.reduceEqDiff, Nat.reduceAdd, Nat.reduceMul, Nat.reduceSub, Nat.reduceLT, Int.reduceToNat]))
    rw [fillF_all (by omega)]
    have e1 : (lP a).flatMap cPc = ((lP a).map cpP).flatMap cP := by rw [List.flatMap_map]; rfl
    rw [e1]
    have := vw_all (h := h ++ [some (.cells (((lP a).map cpP).flatMap cP))]) (n := h.length) (sz := 3) (len := (lP a).length) (kc := (lP a).length) (cs := ((lP a).map cpP).flatMap cP) (Nat.le_refl _) (by rw [cells_h0]; rfl) (by rw [flatMap_len cP_len]; simp) (by
      rw [List.all_eq_true]
      intro c hc
      obtain ⟨p, _, hp⟩ := List.mem_flatMap.1 hc
      simp only [cP, List.mem_cons, List.not_mem_nil, or_false] at hp
      rcases hp with rfl | rfl | rfl
      · rfl
      · rfl
      · exact one_eI) (fun c hc => by obtain ⟨p, _, hp⟩ := List.mem_flatMap.1 hc; exact free_cP c hp)
    simpa [ePS] using this

theorem c_laws_toSharded (s : Sh_) (ha : wSh s ≤ 1048576) : Fn Try.prog 22 [eSh s] (· = eSh (cpSh s)) := by
  refine Fn.froze fun h => ?_
  refine enter (by kernel_rfl) e22 (by kernel_rfl) rfl fun hok => ?_
  simp only [r22, initEnv_1]
  (try (simp (disch := first | omega | (simp <;> omega) | fail) only [push_cast, ↓reduceIte, Nat.reduceEqDiff, Nat.reduceAdd, Nat.reduceMul, Nat.reduceSub, Nat.reduceLT, Int.reduceToNat]))
  refine (c_laws_toPeeledS _ (by unfold wSh at ha; omega)).call ?_
  (try (simp (disch := first | omega | (simp <;> omega) | fail) only [push_cast, ↓reduceIte, Nat.reduceEqDiff, Nat.reduceAdd, Nat.reduceMul, Nat.reduceSub, Nat.reduceLT, Int.reduceToNat]))
  refine (c_laws_toIntS _ (by unfold wSh at ha; omega)).call ?_
  (try (simp (disch := first | omega | (simp <;> omega) | fail) only [push_cast, ↓reduceIte, Nat.reduceEqDiff, Nat.reduceAdd, Nat.reduceMul, Nat.reduceSub, Nat.reduceLT, Int.reduceToNat]))
  exact .free (free_eSh (s := cpSh s))

theorem c_laws_toStringS (a : Option (List Str)) (ha : (lS a).length ≤ 1048576) : Fn Try.prog 13 [eS a] (· = eS (some (lS a))) := by
  refine Fn.froze fun h => ?_
  refine enter (by kernel_rfl) e13 (by kernel_rfl) rfl fun hok => ?_
  simp only [r13, initEnv_1]
  (try (simp (disch := first | omega | (simp <;> omega) | fail) only [push_cast, ↓reduceIte, Nat.reduceEqDiff, Nat.reduceAdd, Nat.reduceMul, Nat.reduceSub, Nat.reduceLT, Int.reduceToNat]))
  refine T_for (lS a).length (fun i e h' => Pins e [(0, eS a), (3, .sl h.length 0 1 (lS a).length (lS a).length), (4, .int .i64 i)] ∧ h' = h ++ [some (.cells (fill .str (lS a) (.str []) i))]) ?_ ?_
  · (try (simp (disch := first | omega | (simp <;> omega) | fail) only [push_cast, ↓reduceIte, Nat.reduceEqDiff, Nat.reduceAdd, Nat.reduceMul, Nat.reduceSub, Nat.reduceLT, Int.reduceToNat, fill_0]))
  rintro i e h' hi ⟨hp, rfl⟩
  refine T_pins hp fun e => ?_
  (try (simp (disch := first | omega | (simp <;> omega) | fail) only [push_cast, ↓reduceIte, Nat.reduceEqDiff, Nat.reduceAdd, Nat.reduceMul, Nat.reduceSub, Nat.reduceLT, Int.reduceToNat]))
  first | refine goC_split (fun hc => ?_) (fun hc => ?_) | refine cnd_split (fun hc => ?_) (fun hc => ?_)
  · (try (simp only [decide_eq_true_eq, decide_eq_false_iff_not, Bool.not_eq_true', Bool.not_eq_false', Bool.and_eq_true, Bool.or_eq_true, Int.not_lt, Int.not_le] at hc)); (try (simp (disch := first | omega | (simp <;> omega) | fail) only [push_cast, ↓reduceIte, Nat.reduceEqDiff, Nat.reduceAdd, Nat.reduceMul, Nat.reduceSub, Nat.reduceLT, Int.reduceToNat]))
    (try (simp (disch := first | omega | (simp <;> omega) | fail) only [push_cast, ↓reduceIte, Nat.reduceEqDiff, Nat.reduceAdd, Nat.reduceMul, Nat.reduceSub, Nat.reduceLT, Int.reduceToNat, fill_len hi]))
    rw [fill_next (d := []) (by omega) rfl]
  · (try (simp only [decide_eq_true_eq, decide_eq_false_iff_not, Bool.not_eq_true', Bool.not_eq_false', Bool.and_eq_true, Bool.or_eq_true, Int.not_lt, Int.not_le] at hc)); (try (simp (disch := first | omega | (simp <;> omega) | fail) only [push_cast, ↓reduceIte, Nat.reduceEqDiff, Nat.reduceAdd, Nat.reduceMul, Nat.reduceSub, Nat.reduceLT, Int.reduceToNat]))
    rw [fill_all (by omega)]
    exact vw_all (cs := (lS a).map .str) (Nat.le_refl _) (by rw [cells_h0]; rfl) (by simp) (one_map fun _ => rfl) (free_map_ fun _ => free_str)

theorem c_spec_l1In (n lo hi : Int) : Fn Try.prog 46 [.int .i64 n, .int .i64 lo, .int .i64 hi] (· = .bool (decide (lo ≤ n) && decide (n ≤ hi))) := by
  refine Fn.of free_bool fun h => ?_
  refine enter (by kernel_rfl) e46 (by kernel_rfl) rfl fun hok => ?_
  simp only [r46, initEnv_3]
  (try (simp (disch := first | omega | (simp <;> omega) | fail) only [push_cast, ↓reduceIte, Nat.reduceEqDiff, Nat.reduceAdd, Nat.reduceMul, Nat.reduceSub, Nat.reduceLT, Int.reduceToNat]))
  first | refine goC_split (fun hc => ?_) (fun hc => ?_) | refine cnd_split (fun hc => ?_) (fun hc => ?_)
  · (try (simp only [decide_eq_true_eq, decide_eq_false_iff_not, Bool.not_eq_true', Bool.not_eq_false', Bool.and_eq_true, Bool.or_eq_true, Int.not_lt, Int.not_le] at hc)); (try (simp (disch := first | omega | (simp <;> omega) | fail) only [push_cast, ↓reduceIte, Nat.reduceEqDiff, Nat.reduceAdd, Nat.reduceMul, Nat.reduceSub, Nat.reduceLT, Int.reduceToNat]))
    first | refine goC_split (fun hd => ?_) (fun hd => ?_) | refine cnd_split (fun hd => ?_) (fun hd => ?_)
    · (try (simp only [decide_eq_true_eq, decide_eq_false_iff_not, Bool.not_eq_true', Bool.not_eq_false', Bool.and_eq_true, Bool.or_eq_true, Int.not_lt, Int.not_le] at hd)); (try (simp (disch := first | omega | (simp <;> omega) | fail) only [push_cast, ↓reduceIte, Nat.reduceEqDiff, Nat.reduceAdd, Nat.reduceMul, Nat.reduceSub, Nat.reduceLT, Int.reduceToNat]))
    · (try (simp only [decide_eq_true_eq, decide_eq_false_iff_not, Bool.not_eq_true', Bool.not_eq_false', Bool.and_eq_true, Bool.or_eq_true, Int.not_lt, Int.not_le] at hd)); (try (simp (disch := first | omega | (simp <;> omega) | fail) only [push_cast, ↓reduceIte, Nat.reduceEqDiff, Nat.reduceAdd, Nat.reduceMul, Nat.reduceSub, Nat.reduceLT, Int.reduceToNat]))
  · (try (simp only [decide_eq_true_eq, decide_eq_false_iff_not, Bool.not_eq_true', Bool.not_eq_false', Bool.and_eq_true, Bool.or_eq_true, Int.not_lt, Int.not_le] at hc)); (try (simp (disch := first | omega | (simp <;> omega) | fail) only [push_cast, ↓reduceIte, Nat.reduceEqDiff, Nat.reduceAdd, Nat.reduceMul, Nat.reduceSub, Nat.reduceLT, Int.reduceToNat]))
    try simp

theorem c_spec_stShards (n : Int) : Fn Try.prog 48 [.int .i64 n] (· = .bool (decide (1 ≤ n) && decide (n ≤ 8))) := by
  refine Fn.of free_bool fun h => ?_
  refine enter (by kernel_rfl) e48 (by kernel_rfl) rfl fun hok => ?_
  simp only [r48, initEnv_1]
  (try (simp (disch := first | omega | (simp <;> omega) | fail) only [push_cast, ↓reduceIte, Nat.reduceEqDiff, Nat.reduceAdd, Nat.reduceMul, Nat.reduceSub, Nat.reduceLT, Int.reduceToNat]))
  refine (c_spec_l1In _ _ _).call ?_
  (try (simp (disch := first | omega | (simp <;> omega) | fail) only [push_cast, ↓reduceIte, Nat.reduceEqDiff, Nat.reduceAdd, Nat.reduceMul, Nat.reduceSub, Nat.reduceLT, Int.reduceToNat]))

theorem c_spec_l1All (a : Option (List Int)) (lo hi : Int) : Fn Try.prog 125 [eI a, .int .i64 lo, .int .i64 hi] (· = .bool ((lI a).all fun m => decide (lo ≤ m) && decide (m ≤ hi))) := by
  refine Fn.of free_bool fun h => ?_
  refine enter (by kernel_rfl) e125 (by kernel_rfl) rfl fun hok => ?_
  simp only [r125, initEnv_3]
  have hlen := ok_eI (okV_0 hok)
  (try (simp (disch := first | omega | (simp <;> omega) | fail) only [push_cast, ↓reduceIte, Nat.reduceEqDiff, Nat.reduceAdd, Nat.reduceMul, Nat.reduceSub, Nat.reduceLT, Int.reduceToNat]))
  refine T_for (lI a).length (fun i e h' => Pins e [(1, .int .i64 lo), (2, .int .i64 hi), (9, eI a), (10, .int .i64 (lI a).length), (11, .int .i64 i)] ∧ h' = h ∧ ((lI a).take i).all (fun m => decide (lo ≤ m) && decide (m ≤ hi)) = true) ?_ ?_
  · (try (simp (disch := first | omega | (simp <;> omega) | fail) only [push_cast, ↓reduceIte, Nat.reduceEqDiff, Nat.reduceAdd, Nat.reduceMul, Nat.reduceSub, Nat.reduceLT, Int.reduceToNat]))
    all_goals (try simp)
  rintro i e h' hi_ ⟨hp, rfl, ha⟩
  refine T_pins hp fun e => ?_
  (try (simp (disch := first | omega | (simp <;> omega) | fail) only [push_cast, ↓reduceIte, Nat.reduceEqDiff, Nat.reduceAdd, Nat.reduceMul, Nat.reduceSub, Nat.reduceLT, Int.reduceToNat]))
  first | refine goC_split (fun hc => ?_) (fun hc => ?_) | refine cnd_split (fun hc => ?_) (fun hc => ?_)
  · (try (simp only [decide_eq_true_eq, decide_eq_false_iff_not, Bool.not_eq_true', Bool.not_eq_false', Bool.and_eq_true, Bool.or_eq_true, Int.not_lt, Int.not_le] at hc)); (try (simp (disch := first | omega | (simp <;> omega) | fail) only [push_cast, ↓reduceIte, Nat.reduceEqDiff, Nat.reduceAdd, Nat.reduceMul, Nat.reduceSub, Nat.reduceLT, Int.reduceToNat]))
    have hi2 : i < (lI a).length := by omega
    (try (simp (disch := first | omega | (simp <;> omega) | fail) only [push_cast, ↓reduceIte, Nat.reduceEqDiff, Nat.reduceAdd, Nat.reduceMul, Nat.reduceSub, Nat.reduceLT, Int.reduceToNat]))
    refine (c_spec_l1In _ _ _).call ?_
    have hn : ((lI a).take (i + 1)).all (fun m => decide (lo ≤ m) && decide (m ≤ hi)) = (decide (lo ≤ (lI a).getD i 0) && decide ((lI a).getD i 0 ≤ hi)) := by
      rw [List.take_add_one, List.all_append, ha]
      simp [hi2]
    cases hk : (decide (lo ≤ (lI a).getD i 0) && decide ((lI a).getD i 0 ≤ hi))
    · (try (simp (disch := first | omega | (simp <;> omega) | fail) only [push_cast, ↓reduceIte, Nat.reduceEqDiff, Nat.reduceAdd, Nat.reduceMul, Nat.reduceSub, Nat.reduceLT, Int.reduceToNat]))
      symm
      rw [List.all_eq_false]
      refine ⟨(lI a).getD i 0, by simp [hi2], by rw [hk]; simp⟩
    · (try (simp (disch := first | omega | (simp <;> omega) | fail) only [push_cast, ↓reduceIte, Nat.reduceEqDiff, Nat.reduceAdd, Nat.reduceMul, Nat.reduceSub, Nat.reduceLT, Int.reduceToNat]))
      rw [hn, hk]
  · (try (simp only [decide_eq_true_eq, decide_eq_false_iff_not, Bool.not_eq_true', Bool.not_eq_false', Bool.and_eq_true, Bool.or_eq_true, Int.not_lt, Int.not_le] at hc)); (try (simp (disch := first | omega | (simp <;> omega) | fail) only [push_cast, ↓reduceIte, Nat.reduceEqDiff, Nat.reduceAdd, Nat.reduceMul, Nat.reduceSub, Nat.reduceLT, Int.reduceToNat]))
    have : (lI a).take i = lI a := List.take_of_length_le (by omega)
    rw [this] at ha
    rw [ha]

def rank (l : List Int) (n : Nat) : Nat := (l.take n).countP (fun m => decide (m ≠ 3))
theorem rank_0 {l : List Int} : rank l 0 = 0 := by simp [rank]
theorem rank_le {l : List Int} {n : Nat} : rank l n ≤ n := by
  unfold rank
  have := List.countP_le_length (p := fun m : Int => decide (m ≠ 3)) (l := l.take n)
  have h2 : (l.take n).length ≤ n := by simp; omega
  omega
theorem rank_succ {l : List Int} {n : Nat} (hn : n < l.length) : rank l (n + 1) = rank l n + (if l.getD n 0 = 3 then 0 else 1) := by
  unfold rank
  rw [List.take_add_one, List.countP_append]
  congr 1
  by_cases h : l.getD n 0 = 3
  · have h' : l[n] = 3 := by simpa [hn] using h
    simp [hn, h']
  · have h' : l[n] ≠ 3 := by simpa [hn] using h
    simp [hn, h']
def okMarks (l : List Int) : Bool := l.all fun m => decide (0 ≤ m) && decide (m ≤ 3)
def okPd (p : Pd) : Bool := (decide (0 ≤ p.seed) && decide (p.seed ≤ 9999)) && ((decide (1 ≤ p.seg) && decide (p.seg ≤ 24)) && (decide (((lI p.marks).length : Int) = 3 * p.seg) && okMarks (lI p.marks)))

theorem c_spec_pfPeeled (p : Pd) : Fn Try.prog 91 [eP p] (· = .bool (okPd p)) := by
  refine Fn.of free_bool fun h => ?_
  refine enter (by kernel_rfl) e91 (by kernel_rfl) rfl fun hok => ?_
  simp only [r91, initEnv_1]
  (try (simp (disch := first | omega | (simp <;> omega) | fail) only [push_cast, ↓reduceIte, Nat.reduceEqDiff, Nat.reduceAdd, Nat.reduceMul, Nat.reduceSub, Nat.reduceLT, Int.reduceToNat]))
  unfold okPd
  refine (c_spec_l1In _ _ _).call ?_
  cases h1 : (decide (0 ≤ p.seed) && decide (p.seed ≤ 9999))
  · (try (simp (disch := first | omega | (simp <;> omega) | fail) only [push_cast, ↓reduceIte, Nat.reduceEqDiff, Nat.reduceAdd, Nat.reduceMul, Nat.reduceSub, Nat.reduceLT, Int.reduceToNat]))
  (try (simp (disch := first | omega | (simp <;> omega) | fail) only [push_cast, ↓reduceIte, Nat.reduceEqDiff, Nat.reduceAdd, Nat.reduceMul, Nat.reduceSub, Nat.reduceLT, Int.reduceToNat]))
  refine (c_spec_l1In _ _ _).call ?_
  cases h2 : (decide (1 ≤ p.seg) && decide (p.seg ≤ 24))
  · (try (simp (disch := first | omega | (simp <;> omega) | fail) only [push_cast, ↓reduceIte, Nat.reduceEqDiff, Nat.reduceAdd, Nat.reduceMul, Nat.reduceSub, Nat.reduceLT, Int.reduceToNat]))
  have h3 : 1 ≤ p.seg ∧ p.seg ≤ 24 := by simpa using h2
  (try (simp (disch := first | omega | (simp <;> omega) | fail) only [push_cast, ↓reduceIte, Nat.reduceEqDiff, Nat.reduceAdd, Nat.reduceMul, Nat.reduceSub, Nat.reduceLT, Int.reduceToNat]))
  first | refine goC_split (fun hc => ?_) (fun hc => ?_) | refine cnd_split (fun hc => ?_) (fun hc => ?_)
  · (try (simp only [decide_eq_true_eq, decide_eq_false_iff_not, Bool.not_eq_true', Bool.not_eq_false', Bool.and_eq_true, Bool.or_eq_true, Int.not_lt, Int.not_le] at hc)); (try (simp (disch := first | omega | (simp <;> omega) | fail) only [push_cast, ↓reduceIte, Nat.reduceEqDiff, Nat.reduceAdd, Nat.reduceMul, Nat.reduceSub, Nat.reduceLT, Int.reduceToNat]))
    refine (c_spec_l1All _ _ _).call ?_
    (try (simp (disch := first | omega | (simp <;> omega) | fail) only [push_cast, ↓reduceIte, Nat.reduceEqDiff, Nat.reduceAdd, Nat.reduceMul, Nat.reduceSub, Nat.reduceLT, Int.reduceToNat]))
    unfold okMarks
    all_goals (try rfl)
  · (try (simp only [decide_eq_true_eq, decide_eq_false_iff_not, Bool.not_eq_true', Bool.not_eq_false', Bool.and_eq_true, Bool.or_eq_true, Int.not_lt, Int.not_le] at hc)); (try (simp (disch := first | omega | (simp <;> omega) | fail) only [push_cast, ↓reduceIte, Nat.reduceEqDiff, Nat.reduceAdd, Nat.reduceMul, Nat.reduceSub, Nat.reduceLT, Int.reduceToNat]))

theorem c_spec_pfRank (p : Pd) (n : Nat) (hn : n ≤ (lI p.marks).length) : Fn Try.prog 99 [eP p, .int .i64 n] (· = .int .i64 (rank (lI p.marks) n)) := by
  refine Fn.of free_int fun h => ?_
  refine enter (by kernel_rfl) e99 (by kernel_rfl) rfl fun hok => ?_
  simp only [r99, initEnv_2]
  have hlen := ok_eI ((okV_0 hok).agg (eI p.marks) (by simp [cP]))
  have hlt : ((lI p.marks).take n).length = n := by simp; omega
  (try (simp (disch := first | omega | (simp <;> omega) | fail) only [push_cast, ↓reduceIte, Nat.reduceEqDiff, Nat.reduceAdd, Nat.reduceMul, Nat.reduceSub, Nat.reduceLT, Int.reduceToNat, hlt]))
  refine T_for n (fun i e h'' => Pins e [(5, .int .i64 (rank (lI p.marks) i)), (11, eI (tkeI n p.marks)), (12, .int .i64 n), (13, .int .i64 i)]) ?_ ?_
  · (try (simp (disch := first | omega | (simp <;> omega) | fail) only [push_cast, ↓reduceIte, Nat.reduceEqDiff, Nat.reduceAdd, Nat.reduceMul, Nat.reduceSub, Nat.reduceLT, Int.reduceToNat]))
    all_goals (try simp [rank_0])
  rintro i e h'' hi hp
  refine T_pins hp fun e => ?_
  have hr := rank_le (l := lI p.marks) (n := i)
  (try (simp (disch := first | omega | (simp <;> omega) | fail) only [push_cast, ↓reduceIte, Nat.reduceEqDiff, Nat.reduceAdd, Nat.reduceMul, Nat.reduceSub, Nat.reduceLT, Int.reduceToNat]))
  first | refine goC_split (fun hc => ?_) (fun hc => ?_) | refine cnd_split (fun hc => ?_) (fun hc => ?_)
  · (try (simp only [decide_eq_true_eq, decide_eq_false_iff_not, Bool.not_eq_true', Bool.not_eq_false', Bool.and_eq_true, Bool.or_eq_true, Int.not_lt, Int.not_le] at hc)); (try (simp (disch := first | omega | (simp <;> omega) | fail) only [push_cast, ↓reduceIte, Nat.reduceEqDiff, Nat.reduceAdd, Nat.reduceMul, Nat.reduceSub, Nat.reduceLT, Int.reduceToNat]))
    have hi2 : i < (lI p.marks).length := by omega
    have hlt : ((lI p.marks).take n).length = n := by simp; omega
    have hrs := rank_succ hi2
    have hg : ((lI p.marks).take n).getD i 0 = (lI p.marks).getD i 0 := by simp [List.getElem?_take, show i < n by omega]
    (try (simp (disch := first | omega | (simp <;> omega) | fail) only [push_cast, ↓reduceIte, Nat.reduceEqDiff, Nat.reduceAdd, Nat.reduceMul, Nat.reduceSub, Nat.reduceLT, Int.reduceToNat, hlt, hg]))
    first | refine goC_split (fun hd => ?_) (fun hd => ?_) | refine cnd_split (fun hd => ?_) (fun hd => ?_)
    · (try (simp only [decide_eq_true_eq, decide_eq_false_iff_not, Bool.not_eq_true', Bool.not_eq_false', Bool.and_eq_true, Bool.or_eq_true, Int.not_lt, Int.not_le] at hd)); (try (simp (disch := first | omega | (simp <;> omega) | fail) only [push_cast, ↓reduceIte, Nat.reduceEqDiff, Nat.reduceAdd, Nat.reduceMul, Nat.reduceSub, Nat.reduceLT, Int.reduceToNat]))
      rw [if_neg hd] at hrs
      rw [hrs]
      (try (simp (disch := first | omega | (simp <;> omega) | fail) only [push_cast, ↓reduceIte, Nat.reduceEqDiff, Nat.reduceAdd, Nat.reduceMul, Nat.reduceSub, Nat.reduceLT, Int.reduceToNat]))
    · (try (simp only [decide_eq_true_eq, decide_eq_false_iff_not, Bool.not_eq_true', Bool.not_eq_false', Bool.and_eq_true, Bool.or_eq_true, Int.not_lt, Int.not_le] at hd)); (try (simp (disch := first | omega | (simp <;> omega) | fail) only [push_cast, ↓reduceIte, Nat.reduceEqDiff, Nat.reduceAdd, Nat.reduceMul, Nat.reduceSub, Nat.reduceLT, Int.reduceToNat]))
      rw [if_pos hd] at hrs
      rw [hrs]
      (try (simp (disch := first | omega | (simp <;> omega) | fail) only [push_cast, ↓reduceIte, Nat.reduceEqDiff, Nat.reduceAdd, Nat.reduceMul, Nat.reduceSub, Nat.reduceLT, Int.reduceToNat]))
  · (try (simp only [decide_eq_true_eq, decide_eq_false_iff_not, Bool.not_eq_true', Bool.not_eq_false', Bool.and_eq_true, Bool.or_eq_true, Int.not_lt, Int.not_le] at hc)); (try (simp (disch := first | omega | (simp <;> omega) | fail) only [push_cast, ↓reduceIte, Nat.reduceEqDiff, Nat.reduceAdd, Nat.reduceMul, Nat.reduceSub, Nat.reduceLT, Int.reduceToNat]))
    have : i = n := by omega
    subst this
    rfl

def usedP (p : Pd) : Nat := rank (lI p.marks) (lI p.marks).length
def offAt (l : List Pd) (i : Nat) : Nat := ((l.take i).map usedP).sum
theorem offAt_0 {l : List Pd} : offAt l 0 = 0 := by simp [offAt]
theorem offAt_succ {l : List Pd} {i : Nat} (hi : i < l.length) : offAt l (i + 1) = offAt l i + usedP (l.getD i default) := by
  unfold offAt
  rw [List.take_add_one, List.map_append, List.sum_append]
  simp [hi]
theorem offAt_le {l : List Pd} {w : Nat} (hw : ∀ i, i < l.length → (lI (l.getD i default).marks).length ≤ w) : ∀ i, i ≤ l.length → offAt l i ≤ i * w
  | 0, _ => by simp [offAt_0]
  | i + 1, hi => by
    rw [offAt_succ (by omega), Nat.succ_mul]
    have h1 := offAt_le hw i (by omega)
    have h2 := hw i (by omega)
    have h3 : usedP (l.getD i default) ≤ _ := rank_le
    omega
theorem offAt_ok {l : List Pd} : ∀ i, i ≤ l.length → (l.take i).all okPd = true → offAt l i ≤ i * 72
  | 0, _, _ => by simp [offAt_0]
  | i + 1, hi, h => by
    rw [List.take_add_one, List.all_append, Bool.and_eq_true] at h
    have h0 : i < l.length := by omega
    have h1 := offAt_ok i (by omega) h.1
    have h2 : okPd (l.getD i default) = true := by
      have := h.2
      simp [h0] at this
      simpa [h0] using this
    simp only [okPd, Bool.and_eq_true, decide_eq_true_eq] at h2
    rw [offAt_succ h0]
    have h3 : usedP (l.getD i default) ≤ _ := rank_le
    omega
def offsL (l : List Pd) (i : Nat) : List Int := (List.range i).map fun j => (offAt l j : Int)
theorem offsL_len {l : List Pd} {i : Nat} : (offsL l i).length = i := by simp [offsL]
theorem offsL_succ {l : List Pd} {i : Nat} : offsL l (i + 1) = offsL l i ++ [(offAt l i : Int)] := by simp [offsL, List.range_succ]
def okSh (s : Sh_) : Bool := (decide (0 ≤ s.seed) && decide (s.seed ≤ 9999)) && ((decide (1 ≤ ((lP s.parts).length : Int)) && decide (((lP s.parts).length : Int) ≤ 8)) && ((lP s.parts).all okPd && decide (lI s.offs = offsL (lP s.parts) (lP s.parts).length)))
theorem okPd_len {p : Pd} (h : okPd p = true) : (lI p.marks).length ≤ 72 := by
  simp only [okPd, Bool.and_eq_true, decide_eq_true_eq] at h
  omega

theorem c_spec_stOffsets (a : Option (List Pd)) (ha : (lP a).length ≤ 8) (hm : ∀ i, i < (lP a).length → (lI ((lP a).getD i default).marks).length ≤ 72) : Fn Try.prog 76 [ePS a] (fun x => ∃ o, x = eI o ∧ lI o = offsL (lP a) (lP a).length) := by
  refine Fn.froze_ fun h => ?_
  refine enter (by kernel_rfl) e76 (by kernel_rfl) rfl fun hok => ?_
  simp only [r76, initEnv_1]
  (try (simp (disch := first | omega | (simp <;> omega) | fail) only [push_cast, ↓reduceIte, Nat.reduceEqDiff, Nat.reduceAdd, Nat.reduceMul, Nat.reduceSub, Nat.reduceLT, Int.reduceToNat]))
  refine T_for (lP a).length (fun i e h' => ∃ v, Pins e [(3, v), (4, .int .i64 (offAt (lP a) i)), (7, ePS a), (8, .int .i64 (lP a).length), (9, .int .i64 i)] ∧ Gr h h' 1 v i ((offsL (lP a) i).map (.int .i64))) ?_ ?_
  · refine ⟨.nils, ?_, ?_⟩
    · (try (simp (disch := first | omega | (simp <;> omega) | fail) only [push_cast, ↓reduceIte, Nat.reduceEqDiff, Nat.reduceAdd, Nat.reduceMul, Nat.reduceSub, Nat.reduceLT, Int.reduceToNat, offAt_0]))
    · exact Gr.refl
  rintro i e h' hi ⟨v, hp, hg⟩
  refine T_pins hp fun e => ?_
  have hle : h.length ≤ h'.length := by
    obtain ⟨⟨p, rfl⟩, _⟩ := hg
    simp
  have hof := offAt_le hm i hi
  (try (simp (disch := first | omega | (simp <;> omega) | fail) only [push_cast, ↓reduceIte, Nat.reduceEqDiff, Nat.reduceAdd, Nat.reduceMul, Nat.reduceSub, Nat.reduceLT, Int.reduceToNat]))
  first | refine goC_split (fun hc => ?_) (fun hc => ?_) | refine cnd_split (fun hc => ?_) (fun hc => ?_)
  · (try (simp only [decide_eq_true_eq, decide_eq_false_iff_not, Bool.not_eq_true', Bool.not_eq_false', Bool.and_eq_true, Bool.or_eq_true, Int.not_lt, Int.not_le] at hc)); (try (simp (disch := first | omega | (simp <;> omega) | fail) only [push_cast, ↓reduceIte, Nat.reduceEqDiff, Nat.reduceAdd, Nat.reduceMul, Nat.reduceSub, Nat.reduceLT, Int.reduceToNat]))
    have hi2 : i < (lP a).length := by omega
    have hm2 := hm i hi2
    (try (simp (disch := first | omega | (simp <;> omega) | fail) only [push_cast, ↓reduceIte, Nat.reduceEqDiff, Nat.reduceAdd, Nat.reduceMul, Nat.reduceSub, Nat.reduceLT, Int.reduceToNat]))
    refine Gr.app2 hg (fun b hb => .inr hb) (new := [.int .i64 (offAt (lP a) i)]) rfl (by decide) (by omega) ?_
    intro v' p' q hpl _ hg'
    rw [hpl]
    have hu := rank_le (l := lI ((lP a).getD i default).marks) (n := (lI ((lP a).getD i default).marks).length)
    (try (simp (disch := first | omega | (simp <;> omega) | fail) only [push_cast, ↓reduceIte, Nat.reduceEqDiff, Nat.reduceAdd, Nat.reduceMul, Nat.reduceSub, Nat.reduceLT, Int.reduceToNat]))
    refine (c_spec_pfRank ((lP a).getD i default) _ (Nat.le_refl _)).call ?_
    have hos := offAt_succ hi2
    unfold usedP at hos
    (try (simp (disch := first | omega | (simp <;> omega) | fail) only [push_cast, ↓reduceIte, Nat.reduceEqDiff, Nat.reduceAdd, Nat.reduceMul, Nat.reduceSub, Nat.reduceLT, Int.reduceToNat]))
    refine ⟨v', rfl, ?_⟩
    rw [offsL_succ, List.map_append]
    exact hg'
  · (try (simp only [decide_eq_true_eq, decide_eq_false_iff_not, Bool.not_eq_true', Bool.not_eq_false', Bool.and_eq_true, Bool.or_eq_true, Int.not_lt, Int.not_le] at hc)); (try (simp (disch := first | omega | (simp <;> omega) | fail) only [push_cast, ↓reduceIte, Nat.reduceEqDiff, Nat.reduceAdd, Nat.reduceMul, Nat.reduceSub, Nat.reduceLT, Int.reduceToNat]))
    have : i = (lP a).length := by omega
    subst this
    have hh := Gr.vwI (h := h) (h' := h') (v := v) (l := offsL (lP a) (lP a).length) (by rw [offsL_len]; exact hg)
    obtain ⟨o, h1, h2⟩ := hh
    exact ⟨eI o, h1, o, rfl, h2⟩

theorem c_spec_l1Same (a b : Option (List Int)) : Fn Try.prog 92 [eI a, eI b] (· = .bool (decide (lI a = lI b))) := by
  refine Fn.of free_bool fun h => ?_
  refine enter (by kernel_rfl) e92 (by kernel_rfl) rfl fun hok => ?_
  simp only [r92, initEnv_2]
  have ha := ok_eI (okV_0 hok)
  have hb := ok_eI (okV_1 hok)
  (try (simp (disch := first | omega | (simp <;> omega) | fail) only [push_cast, ↓reduceIte, Nat.reduceEqDiff, Nat.reduceAdd, Nat.reduceMul, Nat.reduceSub, Nat.reduceLT, Int.reduceToNat]))
  first | refine goC_split (fun hc => ?_) (fun hc => ?_) | refine cnd_split (fun hc => ?_) (fun hc => ?_)
  · (try (simp only [decide_eq_true_eq, decide_eq_false_iff_not, Bool.not_eq_true', Bool.not_eq_false', Bool.and_eq_true, Bool.or_eq_true, Int.not_lt, Int.not_le] at hc)); (try (simp (disch := first | omega | (simp <;> omega) | fail) only [push_cast, ↓reduceIte, Nat.reduceEqDiff, Nat.reduceAdd, Nat.reduceMul, Nat.reduceSub, Nat.reduceLT, Int.reduceToNat]))
    symm
    rw [decide_eq_false_iff_not]
    intro he
    rw [he] at hc
    exact hc rfl
  have hlen : (lI a).length = (lI b).length := by (try (simp only [decide_eq_true_eq, decide_eq_false_iff_not, Bool.not_eq_true', Bool.not_eq_false', Bool.and_eq_true, Bool.or_eq_true, Int.not_lt, Int.not_le] at hc)); (try (simp (disch := first | omega | (simp <;> omega) | fail) only [push_cast, ↓reduceIte, Nat.reduceEqDiff, Nat.reduceAdd, Nat.reduceMul, Nat.reduceSub, Nat.reduceLT, Int.reduceToNat])); omega
  (try (simp (disch := first | omega | (simp <;> omega) | fail) only [push_cast, ↓reduceIte, Nat.reduceEqDiff, Nat.reduceAdd, Nat.reduceMul, Nat.reduceSub, Nat.reduceLT, Int.reduceToNat]))
  refine T_for (lI a).length (fun i e h' => Pins e [(0, eI a), (1, eI b), (12, .int .i64 (lI a).length), (13, .int .i64 i)] ∧ h' = h ∧ (lI a).take i = (lI b).take i) ?_ ?_
  · (try (simp (disch := first | omega | (simp <;> omega) | fail) only [push_cast, ↓reduceIte, Nat.reduceEqDiff, Nat.reduceAdd, Nat.reduceMul, Nat.reduceSub, Nat.reduceLT, Int.reduceToNat]))
    simp
  rintro i e h' hi ⟨hp, rfl, he⟩
  refine T_pins hp fun e => ?_
  (try (simp (disch := first | omega | (simp <;> omega) | fail) only [push_cast, ↓reduceIte, Nat.reduceEqDiff, Nat.reduceAdd, Nat.reduceMul, Nat.reduceSub, Nat.reduceLT, Int.reduceToNat]))
  first | refine goC_split (fun hc => ?_) (fun hc => ?_) | refine cnd_split (fun hc => ?_) (fun hc => ?_)
  · (try (simp only [decide_eq_true_eq, decide_eq_false_iff_not, Bool.not_eq_true', Bool.not_eq_false', Bool.and_eq_true, Bool.or_eq_true, Int.not_lt, Int.not_le] at hc)); (try (simp (disch := first | omega | (simp <;> omega) | fail) only [push_cast, ↓reduceIte, Nat.reduceEqDiff, Nat.reduceAdd, Nat.reduceMul, Nat.reduceSub, Nat.reduceLT, Int.reduceToNat]))
    have hi : i < (lI a).length := by omega
    (try (simp (disch := first | omega | (simp <;> omega) | fail) only [push_cast, ↓reduceIte, Nat.reduceEqDiff, Nat.reduceAdd, Nat.reduceMul, Nat.reduceSub, Nat.reduceLT, Int.reduceToNat]))
    first | refine goC_split (fun hc => ?_) (fun hc => ?_) | refine cnd_split (fun hc => ?_) (fun hc => ?_)
    · (try (simp only [decide_eq_true_eq, decide_eq_false_iff_not, Bool.not_eq_true', Bool.not_eq_false', Bool.and_eq_true, Bool.or_eq_true, Int.not_lt, Int.not_le] at hc)); (try (simp (disch := first | omega | (simp <;> omega) | fail) only [push_cast, ↓reduceIte, Nat.reduceEqDiff, Nat.reduceAdd, Nat.reduceMul, Nat.reduceSub, Nat.reduceLT, Int.reduceToNat]))
      symm
      rw [decide_eq_false_iff_not]
      intro he
      rw [he] at hc
      exact hc rfl
    · (try (simp only [decide_eq_true_eq, decide_eq_false_iff_not, Bool.not_eq_true', Bool.not_eq_false', Bool.and_eq_true, Bool.or_eq_true, Int.not_lt, Int.not_le] at hc)); (try (simp (disch := first | omega | (simp <;> omega) | fail) only [push_cast, ↓reduceIte, Nat.reduceEqDiff, Nat.reduceAdd, Nat.reduceMul, Nat.reduceSub, Nat.reduceLT, Int.reduceToNat]))
      have h1 : i < (lI b).length := by omega
      simp [hi, h1] at hc
      rw [List.take_add_one, List.take_add_one, he]
      simp [hi, h1, hc]
  · (try (simp only [decide_eq_true_eq, decide_eq_false_iff_not, Bool.not_eq_true', Bool.not_eq_false', Bool.and_eq_true, Bool.or_eq_true, Int.not_lt, Int.not_le] at hc)); (try (simp (disch := first | omega | (simp <;> omega) | fail) only [push_cast, ↓reduceIte, Nat.reduceEqDiff, Nat.reduceAdd, Nat.reduceMul, Nat.reduceSub, Nat.reduceLT, Int.reduceToNat]))
    have hi2 : i = (lI a).length := by omega
    symm
    rw [decide_eq_true_iff]
    rw [hi2, List.take_length] at he
    rw [he, hlen, List.take_length]

theorem c_spec_stGood (s : Sh_) : Fn Try.prog 58 [eSh s] (· = .bool (okSh s)) := by
  refine Fn.of free_bool fun h => ?_
  refine enter (by kernel_rfl) e58 (by kernel_rfl) rfl fun hok => ?_
  simp only [r58, initEnv_1]
  (try (simp (disch := first | omega | (simp <;> omega) | fail) only [push_cast, ↓reduceIte, Nat.reduceEqDiff, Nat.reduceAdd, Nat.reduceMul, Nat.reduceSub, Nat.reduceLT, Int.reduceToNat]))
  unfold okSh
  refine (c_spec_l1In _ _ _).call ?_
  cases h1 : (decide (0 ≤ s.seed) && decide (s.seed ≤ 9999))
  · (try (simp (disch := first | omega | (simp <;> omega) | fail) only [push_cast, ↓reduceIte, Nat.reduceEqDiff, Nat.reduceAdd, Nat.reduceMul, Nat.reduceSub, Nat.reduceLT, Int.reduceToNat]))
  (try (simp (disch := first | omega | (simp <;> omega) | fail) only [push_cast, ↓reduceIte, Nat.reduceEqDiff, Nat.reduceAdd, Nat.reduceMul, Nat.reduceSub, Nat.reduceLT, Int.reduceToNat]))
  refine (c_spec_stShards _).call ?_
  cases h2 : (decide (1 ≤ ((lP s.parts).length : Int)) && decide (((lP s.parts).length : Int) ≤ 8))
  · (try (simp (disch := first | omega | (simp <;> omega) | fail) only [push_cast, ↓reduceIte, Nat.reduceEqDiff, Nat.reduceAdd, Nat.reduceMul, Nat.reduceSub, Nat.reduceLT, Int.reduceToNat]))
  have h3 : 1 ≤ (lP s.parts).length ∧ (lP s.parts).length ≤ 8 := by
    simp only [Bool.and_eq_true, decide_eq_true_eq] at h2
    omega
  (try (simp (disch := first | omega | (simp <;> omega) | fail) only [push_cast, ↓reduceIte, Nat.reduceEqDiff, Nat.reduceAdd, Nat.reduceMul, Nat.reduceSub, Nat.reduceLT, Int.reduceToNat]))
  refine T_for (lP s.parts).length (fun i e h' => Pins e [(1, .adr h.length 0), (17, ePS s.parts), (18, .int .i64 (lP s.parts).length), (19, .int .i64 i)] ∧ (h.length < h'.length ∧ H.cells h' h.length = some [.int .i64 s.seed, ePS s.parts, eI s.offs]) ∧ ((lP s.parts).take i).all okPd = true) ?_ ?_
  · (try (simp (disch := first | omega | (simp <;> omega) | fail) only [push_cast, ↓reduceIte, Nat.reduceEqDiff, Nat.reduceAdd, Nat.reduceMul, Nat.reduceSub, Nat.reduceLT, Int.reduceToNat]))
    all_goals (try simp)
  rintro i e h' hi ⟨hp, ⟨hlt, hbox⟩, ha⟩
  refine T_pins hp fun e => ?_
  (try (simp (disch := first | omega | (simp <;> omega) | fail) only [push_cast, ↓reduceIte, Nat.reduceEqDiff, Nat.reduceAdd, Nat.reduceMul, Nat.reduceSub, Nat.reduceLT, Int.reduceToNat, hbox]))
  first | refine goC_split (fun hc => ?_) (fun hc => ?_) | refine cnd_split (fun hc => ?_) (fun hc => ?_)
  · (try (simp only [decide_eq_true_eq, decide_eq_false_iff_not, Bool.not_eq_true', Bool.not_eq_false', Bool.and_eq_true, Bool.or_eq_true, Int.not_lt, Int.not_le] at hc)); (try (simp (disch := first | omega | (simp <;> omega) | fail) only [push_cast, ↓reduceIte, Nat.reduceEqDiff, Nat.reduceAdd, Nat.reduceMul, Nat.reduceSub, Nat.reduceLT, Int.reduceToNat]))
    have hi2 : i < (lP s.parts).length := by omega
    (try (simp (disch := first | omega | (simp <;> omega) | fail) only [push_cast, ↓reduceIte, Nat.reduceEqDiff, Nat.reduceAdd, Nat.reduceMul, Nat.reduceSub, Nat.reduceLT, Int.reduceToNat, hbox]))
    refine (c_spec_pfPeeled ((lP s.parts).getD i default)).call ?_
    have hn : ((lP s.parts).take (i + 1)).all okPd = okPd ((lP s.parts).getD i default) := by
      rw [List.take_add_one, List.all_append, ha]
      simp [hi2]
    cases hk : okPd ((lP s.parts).getD i default)
    · (try (simp (disch := first | omega | (simp <;> omega) | fail) only [push_cast, ↓reduceIte, Nat.reduceEqDiff, Nat.reduceAdd, Nat.reduceMul, Nat.reduceSub, Nat.reduceLT, Int.reduceToNat, hbox]))
      have : (lP s.parts).all okPd = false := by
        rw [List.all_eq_false]
        exact ⟨(lP s.parts).getD i default, by simp [hi2], by rw [hk]; simp⟩
      rw [this]
      rfl
    · (try (simp (disch := first | omega | (simp <;> omega) | fail) only [push_cast, ↓reduceIte, Nat.reduceEqDiff, Nat.reduceAdd, Nat.reduceMul, Nat.reduceSub, Nat.reduceLT, Int.reduceToNat, hbox]))
      rw [hn, hk]
      all_goals (try simp)
  · (try (simp only [decide_eq_true_eq, decide_eq_false_iff_not, Bool.not_eq_true', Bool.not_eq_false', Bool.and_eq_true, Bool.or_eq_true, Int.not_lt, Int.not_le] at hc)); (try (simp (disch := first | omega | (simp <;> omega) | fail) only [push_cast, ↓reduceIte, Nat.reduceEqDiff, Nat.reduceAdd, Nat.reduceMul, Nat.reduceSub, Nat.reduceLT, Int.reduceToNat]))
    have : (lP s.parts).take i = lP s.parts := List.take_of_length_le (by omega)
    rw [this] at ha
    rw [ha]
    have hm : ∀ i, i < (lP s.parts).length → (lI ((lP s.parts).getD i default).marks).length ≤ 72 := fun i hi => okPd_len (List.all_eq_true.1 ha _ (by simp [hi]))
    (try (simp (disch := first | omega | (simp <;> omega) | fail) only [push_cast, ↓reduceIte, Nat.reduceEqDiff, Nat.reduceAdd, Nat.reduceMul, Nat.reduceSub, Nat.reduceLT, Int.reduceToNat, hbox]))
    refine (c_spec_stOffsets _ h3.2 hm).use ?_
    rintro x ⟨o, rfl, ho⟩
    (try (simp (disch := first | omega | (simp <;> omega) | fail) only [push_cast, ↓reduceIte, Nat.reduceEqDiff, Nat.reduceAdd, Nat.reduceMul, Nat.reduceSub, Nat.reduceLT, Int.reduceToNat, hbox]))
    refine (c_spec_l1Same _ _).call ?_
    (try (simp (disch := first | omega | (simp <;> omega) | fail) only [push_cast, ↓reduceIte, Nat.reduceEqDiff, Nat.reduceAdd, Nat.reduceMul, Nat.reduceSub, Nat.reduceLT, Int.reduceToNat, hbox]))
    all_goals (try rw [ho])

def okByte (c : UInt8) : Bool := decide (33 ≤ (c.toNat : Int)) && decide ((c.toNat : Int) ≤ 125)
def okKey (s : Str) : Bool := s.all okByte && (decide (1 ≤ (s.length : Int)) && decide ((s.length : Int) ≤ 12))
/-- Sorted, each a key. -/
def okKeysFrom (l : List Str) : Nat → Bool
  | 0 => true
  | i + 1 => okKeysFrom l i && (okKey (l.getD i []) && (decide (i = 0) || Op.bytesLess (l.getD (i - 1) []) (l.getD i [])))
def okKeys (l : List Str) : Bool := okKeysFrom l l.length && decide ((l.length : Int) ≤ 40)
theorem okKeysFrom_false {l : List Str} {i : Nat} : ∀ {j}, i ≤ j → okKeysFrom l i = false → okKeysFrom l j = false
  | 0, h, hf => by
    rw [show i = 0 by omega] at hf
    exact hf
  | j + 1, h, hf => by
    by_cases hi : i = j + 1
    · rw [← hi]
      exact hf
    · simp [okKeysFrom, okKeysFrom_false (show i ≤ j by omega) hf]

theorem c_spec_IsKey (s : Str) : Fn Try.prog 65 [.str s] (· = .bool (okKey s)) := by
  refine Fn.of free_bool fun h => ?_
  refine enter (by kernel_rfl) e65 (by kernel_rfl) rfl fun hok => ?_
  simp only [r65, initEnv_1]
  have hlen := (okV_0 hok).str
  (try (simp (disch := first | omega | (simp <;> omega) | fail) only [push_cast, ↓reduceIte, Nat.reduceEqDiff, Nat.reduceAdd, Nat.reduceMul, Nat.reduceSub, Nat.reduceLT, Int.reduceToNat]))
  refine T_for s.length (fun i e h' => Pins e [(0, .str s), (3, .int .i64 i)] ∧ h' = h ∧ (s.take i).all okByte = true) ?_ ?_
  · (try (simp (disch := first | omega | (simp <;> omega) | fail) only [push_cast, ↓reduceIte, Nat.reduceEqDiff, Nat.reduceAdd, Nat.reduceMul, Nat.reduceSub, Nat.reduceLT, Int.reduceToNat]))
    simp
  rintro i e h' hi ⟨hp, rfl, ha⟩
  refine T_pins hp fun e => ?_
  (try (simp (disch := first | omega | (simp <;> omega) | fail) only [push_cast, ↓reduceIte, Nat.reduceEqDiff, Nat.reduceAdd, Nat.reduceMul, Nat.reduceSub, Nat.reduceLT, Int.reduceToNat]))
  first | refine goC_split (fun hc => ?_) (fun hc => ?_) | refine cnd_split (fun hc => ?_) (fun hc => ?_)
  · (try (simp only [decide_eq_true_eq, decide_eq_false_iff_not, Bool.not_eq_true', Bool.not_eq_false', Bool.and_eq_true, Bool.or_eq_true, Int.not_lt, Int.not_le] at hc)); (try (simp (disch := first | omega | (simp <;> omega) | fail) only [push_cast, ↓reduceIte, Nat.reduceEqDiff, Nat.reduceAdd, Nat.reduceMul, Nat.reduceSub, Nat.reduceLT, Int.reduceToNat]))
    have hi : i < s.length := by omega
    have hn : (s.take (i + 1)).all okByte = okByte (s.getD i 0) := by
      rw [List.take_add_one, List.all_append, ha]
      simp [hi]
    have hf : okByte (s.getD i 0) = false → okKey s = false := fun hf => by
      unfold okKey
      rw [Bool.and_eq_false_iff]
      left
      rw [List.all_eq_false]
      refine ⟨s.getD i 0, by simp [hi], by rw [hf]; simp⟩
    (try (simp (disch := first | omega | (simp <;> omega) | fail) only [push_cast, ↓reduceIte, Nat.reduceEqDiff, Nat.reduceAdd, Nat.reduceMul, Nat.reduceSub, Nat.reduceLT, Int.reduceToNat]))
    first | refine goC_split (fun hc => ?_) (fun hc => ?_) | refine cnd_split (fun hc => ?_) (fun hc => ?_)
    · (try (simp only [decide_eq_true_eq, decide_eq_false_iff_not, Bool.not_eq_true', Bool.not_eq_false', Bool.and_eq_true, Bool.or_eq_true, Int.not_lt, Int.not_le] at hc)); (try (simp (disch := first | omega | (simp <;> omega) | fail) only [push_cast, ↓reduceIte, Nat.reduceEqDiff, Nat.reduceAdd, Nat.reduceMul, Nat.reduceSub, Nat.reduceLT, Int.reduceToNat]))
      rw [hf (by unfold okByte; simp only [Bool.and_eq_false_iff, decide_eq_false_iff_not]; omega)]
    · (try (simp only [decide_eq_true_eq, decide_eq_false_iff_not, Bool.not_eq_true', Bool.not_eq_false', Bool.and_eq_true, Bool.or_eq_true, Int.not_lt, Int.not_le] at hc)); (try (simp (disch := first | omega | (simp <;> omega) | fail) only [push_cast, ↓reduceIte, Nat.reduceEqDiff, Nat.reduceAdd, Nat.reduceMul, Nat.reduceSub, Nat.reduceLT, Int.reduceToNat]))
      (try (simp (disch := first | omega | (simp <;> omega) | fail) only [push_cast, ↓reduceIte, Nat.reduceEqDiff, Nat.reduceAdd, Nat.reduceMul, Nat.reduceSub, Nat.reduceLT, Int.reduceToNat]))
      first | refine goC_split (fun hd => ?_) (fun hd => ?_) | refine cnd_split (fun hd => ?_) (fun hd => ?_)
      · (try (simp only [decide_eq_true_eq, decide_eq_false_iff_not, Bool.not_eq_true', Bool.not_eq_false', Bool.and_eq_true, Bool.or_eq_true, Int.not_lt, Int.not_le] at hd)); (try (simp (disch := first | omega | (simp <;> omega) | fail) only [push_cast, ↓reduceIte, Nat.reduceEqDiff, Nat.reduceAdd, Nat.reduceMul, Nat.reduceSub, Nat.reduceLT, Int.reduceToNat]))
        rw [hf (by unfold okByte; simp only [Bool.and_eq_false_iff, decide_eq_false_iff_not]; omega)]
      · (try (simp only [decide_eq_true_eq, decide_eq_false_iff_not, Bool.not_eq_true', Bool.not_eq_false', Bool.and_eq_true, Bool.or_eq_true, Int.not_lt, Int.not_le] at hd)); (try (simp (disch := first | omega | (simp <;> omega) | fail) only [push_cast, ↓reduceIte, Nat.reduceEqDiff, Nat.reduceAdd, Nat.reduceMul, Nat.reduceSub, Nat.reduceLT, Int.reduceToNat]))
        (try (simp (disch := first | omega | (simp <;> omega) | fail) only [push_cast, ↓reduceIte, Nat.reduceEqDiff, Nat.reduceAdd, Nat.reduceMul, Nat.reduceSub, Nat.reduceLT, Int.reduceToNat]))
        rw [hn]
        unfold okByte
        simp only [Bool.and_eq_true, decide_eq_true_eq]
        omega
  · (try (simp only [decide_eq_true_eq, decide_eq_false_iff_not, Bool.not_eq_true', Bool.not_eq_false', Bool.and_eq_true, Bool.or_eq_true, Int.not_lt, Int.not_le] at hc)); (try (simp (disch := first | omega | (simp <;> omega) | fail) only [push_cast, ↓reduceIte, Nat.reduceEqDiff, Nat.reduceAdd, Nat.reduceMul, Nat.reduceSub, Nat.reduceLT, Int.reduceToNat]))
    have he : s.take i = s := List.take_of_length_le (by omega)
    rw [he] at ha
    have hk : okKey s = (decide (1 ≤ (s.length : Int)) && decide ((s.length : Int) ≤ 12)) := by
      unfold okKey
      rw [ha, Bool.true_and]
    rw [hk]
    refine (c_spec_l1In _ _ _).call ?_
    (try (simp (disch := first | omega | (simp <;> omega) | fail) only [push_cast, ↓reduceIte, Nat.reduceEqDiff, Nat.reduceAdd, Nat.reduceMul, Nat.reduceSub, Nat.reduceLT, Int.reduceToNat]))

theorem c_spec_biKeys (a : Option (List Str)) : Fn Try.prog 47 [eS a] (· = .bool (okKeys (lS a))) := by
  refine Fn.of free_bool fun h => ?_
  refine enter (by kernel_rfl) e47 (by kernel_rfl) rfl fun hok => ?_
  simp only [r47, initEnv_1]
  have hlen := ok_eS (okV_0 hok)
  (try (simp (disch := first | omega | (simp <;> omega) | fail) only [push_cast, ↓reduceIte, Nat.reduceEqDiff, Nat.reduceAdd, Nat.reduceMul, Nat.reduceSub, Nat.reduceLT, Int.reduceToNat]))
  refine T_for (lS a).length (fun i e h' => Pins e [(0, eS a), (5, eS a), (6, .int .i64 (lS a).length), (7, .int .i64 i)] ∧ h' = h ∧ okKeysFrom (lS a) i = true) ?_ ?_
  · (try (simp (disch := first | omega | (simp <;> omega) | fail) only [push_cast, ↓reduceIte, Nat.reduceEqDiff, Nat.reduceAdd, Nat.reduceMul, Nat.reduceSub, Nat.reduceLT, Int.reduceToNat]))
    simp [okKeysFrom]
  rintro i e h' hi ⟨hp, rfl, ha⟩
  refine T_pins hp fun e => ?_
  (try (simp (disch := first | omega | (simp <;> omega) | fail) only [push_cast, ↓reduceIte, Nat.reduceEqDiff, Nat.reduceAdd, Nat.reduceMul, Nat.reduceSub, Nat.reduceLT, Int.reduceToNat]))
  first | refine goC_split (fun hc => ?_) (fun hc => ?_) | refine cnd_split (fun hc => ?_) (fun hc => ?_)
  · (try (simp only [decide_eq_true_eq, decide_eq_false_iff_not, Bool.not_eq_true', Bool.not_eq_false', Bool.and_eq_true, Bool.or_eq_true, Int.not_lt, Int.not_le] at hc)); (try (simp (disch := first | omega | (simp <;> omega) | fail) only [push_cast, ↓reduceIte, Nat.reduceEqDiff, Nat.reduceAdd, Nat.reduceMul, Nat.reduceSub, Nat.reduceLT, Int.reduceToNat]))
    have hi : i < (lS a).length := by omega
    have hf : okKeysFrom (lS a) (i + 1) = false → okKeys (lS a) = false := fun hf => by
      unfold okKeys
      rw [okKeysFrom_false (show i + 1 ≤ (lS a).length by omega) hf, Bool.false_and]
    (try (simp (disch := first | omega | (simp <;> omega) | fail) only [push_cast, ↓reduceIte, Nat.reduceEqDiff, Nat.reduceAdd, Nat.reduceMul, Nat.reduceSub, Nat.reduceLT, Int.reduceToNat]))
    refine (c_spec_IsKey _).call ?_
    (try (simp (disch := first | omega | (simp <;> omega) | fail) only [push_cast, ↓reduceIte, Nat.reduceEqDiff, Nat.reduceAdd, Nat.reduceMul, Nat.reduceSub, Nat.reduceLT, Int.reduceToNat]))
    cases hk : okKey ((lS a).getD i [])
    · (try (simp (disch := first | omega | (simp <;> omega) | fail) only [push_cast, ↓reduceIte, Nat.reduceEqDiff, Nat.reduceAdd, Nat.reduceMul, Nat.reduceSub, Nat.reduceLT, Int.reduceToNat]))
      rw [hf (by simp only [okKeysFrom, hk, Bool.false_and, Bool.and_false])]
    · (try (simp (disch := first | omega | (simp <;> omega) | fail) only [push_cast, ↓reduceIte, Nat.reduceEqDiff, Nat.reduceAdd, Nat.reduceMul, Nat.reduceSub, Nat.reduceLT, Int.reduceToNat]))
      first | refine goC_split (fun hc => ?_) (fun hc => ?_) | refine cnd_split (fun hc => ?_) (fun hc => ?_)
      · (try (simp only [decide_eq_true_eq, decide_eq_false_iff_not, Bool.not_eq_true', Bool.not_eq_false', Bool.and_eq_true, Bool.or_eq_true, Int.not_lt, Int.not_le] at hc)); (try (simp (disch := first | omega | (simp <;> omega) | fail) only [push_cast, ↓reduceIte, Nat.reduceEqDiff, Nat.reduceAdd, Nat.reduceMul, Nat.reduceSub, Nat.reduceLT, Int.reduceToNat]))
        (try (simp (disch := first | omega | (simp <;> omega) | fail) only [push_cast, ↓reduceIte, Nat.reduceEqDiff, Nat.reduceAdd, Nat.reduceMul, Nat.reduceSub, Nat.reduceLT, Int.reduceToNat]))
        first | refine goC_split (fun hd => ?_) (fun hd => ?_) | refine cnd_split (fun hd => ?_) (fun hd => ?_)
        · (try (simp (disch := first | omega | (simp <;> omega) | fail) only [push_cast, ↓reduceIte, Nat.reduceEqDiff, Nat.reduceAdd, Nat.reduceMul, Nat.reduceSub, Nat.reduceLT, Int.reduceToNat]))
          rw [hf (by
            rw [Bool.not_eq_true'] at hd
            simp only [okKeysFrom, hk, Bool.true_and, show i ≠ 0 by omega, decide_false, Bool.false_or, hd, Bool.and_false])]
        · (try (simp (disch := first | omega | (simp <;> omega) | fail) only [push_cast, ↓reduceIte, Nat.reduceEqDiff, Nat.reduceAdd, Nat.reduceMul, Nat.reduceSub, Nat.reduceLT, Int.reduceToNat]))
          rw [Bool.not_eq_false'] at hd
          simp only [okKeysFrom, ha, hk, Bool.true_and, hd, Bool.or_true]
      · (try (simp only [decide_eq_true_eq, decide_eq_false_iff_not, Bool.not_eq_true', Bool.not_eq_false', Bool.and_eq_true, Bool.or_eq_true, Int.not_lt, Int.not_le] at hc)); (try (simp (disch := first | omega | (simp <;> omega) | fail) only [push_cast, ↓reduceIte, Nat.reduceEqDiff, Nat.reduceAdd, Nat.reduceMul, Nat.reduceSub, Nat.reduceLT, Int.reduceToNat]))
        (try (simp (disch := first | omega | (simp <;> omega) | fail) only [push_cast, ↓reduceIte, Nat.reduceEqDiff, Nat.reduceAdd, Nat.reduceMul, Nat.reduceSub, Nat.reduceLT, Int.reduceToNat]))
        have : i = 0 := by omega
        subst this
        simp only [okKeysFrom, hk, Bool.true_and, decide_true, Bool.true_or]
  · (try (simp only [decide_eq_true_eq, decide_eq_false_iff_not, Bool.not_eq_true', Bool.not_eq_false', Bool.and_eq_true, Bool.or_eq_true, Int.not_lt, Int.not_le] at hc)); (try (simp (disch := first | omega | (simp <;> omega) | fail) only [push_cast, ↓reduceIte, Nat.reduceEqDiff, Nat.reduceAdd, Nat.reduceMul, Nat.reduceSub, Nat.reduceLT, Int.reduceToNat]))
    have he : i = (lS a).length := by omega
    subst he
    have hk : okKeys (lS a) = decide (((lS a).length : Int) ≤ 40) := by
      unfold okKeys
      rw [ha, Bool.true_and]
    rw [hk]
    (first | refine goC_split (fun hc => ?_) (fun hc => ?_) | refine cnd_split (fun hc => ?_) (fun hc => ?_)) <;> ((try (simp (disch := first | omega | (simp <;> omega) | fail) only [push_cast, ↓reduceIte, Nat.reduceEqDiff, Nat.reduceAdd, Nat.reduceMul, Nat.reduceSub, Nat.reduceLT, Int.reduceToNat]))) <;> (try rw [hc])

def hk (seed part : Int) (s : Str) : Int := s.foldl (fun h c => (263 * h + (c.toNat : Int)) % 65521) ((31 * seed + 977 * part + 7) % 65521)
theorem hk_bd (seed part : Int) : ∀ s : Str, 0 ≤ hk seed part s ∧ hk seed part s < 65521 := by
  intro s
  have key : ∀ (s : Str) (h : Int), 0 ≤ h ∧ h < 65521 → 0 ≤ s.foldl (fun h c => (263 * h + (c.toNat : Int)) % 65521) h ∧ s.foldl (fun h c => (263 * h + (c.toNat : Int)) % 65521) h < 65521 := by
    intro s
    induction s with
    | nil => exact fun h hh => hh
    | cons c s ih =>
      intro h hh
      rw [List.foldl_cons]
      refine ih _ ?_
      show 0 ≤ (263 * h + (c.toNat : Int)) % 65521 ∧ (263 * h + (c.toNat : Int)) % 65521 < 65521
      omega
  exact key s _ ⟨by omega, by omega⟩
theorem hk_take {seed part : Int} {s : Str} {i : Nat} (hi : i < s.length) : hk seed part (s.take (i + 1)) = (263 * hk seed part (s.take i) + ((s.getD i 0).toNat : Int)) % 65521 := by
  unfold hk
  rw [List.take_add_one, List.foldl_append]
  simp [hi]
/-- The hash. -/
def hashV (seed part : Int) (s : Str) : Int := hk seed part s ^ 11 % 65521
theorem hashV_bd (seed part : Int) (s : Str) : 0 ≤ hashV seed part s ∧ hashV seed part s < 65521 := by
  unfold hashV
  exact ⟨by omega, by omega⟩
def placeV (seed part : Int) (s : Str) (n : Int) : Int := hashV seed part s * n / 65521
theorem pow_step (h : Int) (i : Nat) : h ^ i % 65521 * h % 65521 = h ^ (i + 1) % 65521 := by
  rw [Int.pow_succ, Int.mul_emod (h ^ i % 65521) h, Int.emod_emod_of_dvd _ (Int.dvd_refl _), ← Int.mul_emod]
theorem pow_join (h : Int) (i j : Nat) : (h ^ i % 65521) * (h ^ j % 65521) % 65521 = h ^ (i + j) % 65521 := by
  rw [← Int.mul_emod, Int.pow_add]

theorem c_spec_biHash (seed part : Int) (s : Str) (h1 : 0 ≤ seed) (h2 : seed ≤ 9999) (h3 : 0 ≤ part) (h4 : part ≤ 9999) : Fn Try.prog 124 [.int .i64 seed, .int .i64 part, .str s] (· = .int .i64 (hashV seed part s)) := by
  refine Fn.of free_int fun h => ?_
  refine enter (by kernel_rfl) e124 (by kernel_rfl) rfl fun hok => ?_
  simp only [r124, initEnv_3]
  have hlen := (okV_2 hok).str
  (try (simp (disch := first | omega | (simp <;> omega) | fail) only [push_cast, ↓reduceIte, Nat.reduceEqDiff, Nat.reduceAdd, Nat.reduceMul, Nat.reduceSub, Nat.reduceLT, Int.reduceToNat]))
  refine T_for s.length (fun i e h' => Pins e [(2, .str s), (7, .int .i64 (hk seed part (s.take i))), (8, .int .i64 i)] ∧ h' = h) ?_ ?_
  · (try (simp (disch := first | omega | (simp <;> omega) | fail) only [push_cast, ↓reduceIte, Nat.reduceEqDiff, Nat.reduceAdd, Nat.reduceMul, Nat.reduceSub, Nat.reduceLT, Int.reduceToNat]))
    all_goals (try simp [hk])
  rintro i e h' hi ⟨hp, rfl⟩
  refine T_pins hp fun e => ?_
  have hb := hk_bd seed part (s.take i)
  (try (simp (disch := first | omega | (simp <;> omega) | fail) only [push_cast, ↓reduceIte, Nat.reduceEqDiff, Nat.reduceAdd, Nat.reduceMul, Nat.reduceSub, Nat.reduceLT, Int.reduceToNat]))
  first | refine goC_split (fun hc => ?_) (fun hc => ?_) | refine cnd_split (fun hc => ?_) (fun hc => ?_)
  · (try (simp only [decide_eq_true_eq, decide_eq_false_iff_not, Bool.not_eq_true', Bool.not_eq_false', Bool.and_eq_true, Bool.or_eq_true, Int.not_lt, Int.not_le] at hc)); (try (simp (disch := first | omega | (simp <;> omega) | fail) only [push_cast, ↓reduceIte, Nat.reduceEqDiff, Nat.reduceAdd, Nat.reduceMul, Nat.reduceSub, Nat.reduceLT, Int.reduceToNat]))
    have hi : i < s.length := by omega
    have hcb : (s.getD i 0).toNat < 256 := UInt8.toNat_lt _
    have hn := hk_take (seed := seed) (part := part) hi
    (try (simp (disch := first | omega | (simp <;> omega) | fail) only [push_cast, ↓reduceIte, Nat.reduceEqDiff, Nat.reduceAdd, Nat.reduceMul, Nat.reduceSub, Nat.reduceLT, Int.reduceToNat]))
    all_goals (try (rw [hn]))
  · (try (simp only [decide_eq_true_eq, decide_eq_false_iff_not, Bool.not_eq_true', Bool.not_eq_false', Bool.and_eq_true, Bool.or_eq_true, Int.not_lt, Int.not_le] at hc)); (try (simp (disch := first | omega | (simp <;> omega) | fail) only [push_cast, ↓reduceIte, Nat.reduceEqDiff, Nat.reduceAdd, Nat.reduceMul, Nat.reduceSub, Nat.reduceLT, Int.reduceToNat]))
    have he : s.take i = s := List.take_of_length_le (by omega)
    rw [he] at hb ⊢
    unfold hashV
    generalize hk seed part s = x at hb ⊢
    have m2 := mul_bd (x := x) (y := x) (a := 65521) (b := 65521) (by omega) (by omega) (by omega) (by omega)
    have m4 := mul_bd (x := x * x % 65521) (y := x * x % 65521) (a := 65521) (b := 65521) (by omega) (by omega) (by omega) (by omega)
    have m5 := mul_bd (x := x * x % 65521 * (x * x % 65521) % 65521) (y := x) (a := 65521) (b := 65521) (by omega) (by omega) (by omega) (by omega)
    have m10 := mul_bd (x := x * x % 65521 * (x * x % 65521) % 65521 * x % 65521) (y := x * x % 65521 * (x * x % 65521) % 65521 * x % 65521) (a := 65521) (b := 65521) (by omega) (by omega) (by omega) (by omega)
    have m11 := mul_bd (x := x * x % 65521 * (x * x % 65521) % 65521 * x % 65521 * (x * x % 65521 * (x * x % 65521) % 65521 * x % 65521) % 65521) (y := x) (a := 65521) (b := 65521) (by omega) (by omega) (by omega) (by omega)
    have e2 : x * x % 65521 = x ^ 2 % 65521 := by rw [Int.pow_succ, Int.pow_succ, Int.pow_zero, Int.one_mul]
    have e11 : x * x % 65521 * (x * x % 65521) % 65521 * x % 65521 * (x * x % 65521 * (x * x % 65521) % 65521 * x % 65521) % 65521 * x % 65521 = x ^ 11 % 65521 := by
      rw [e2, pow_join, pow_step, pow_join, pow_step]
    (try (simp (disch := first | omega | (simp <;> omega) | fail) only [push_cast, ↓reduceIte, Nat.reduceEqDiff, Nat.reduceAdd, Nat.reduceMul, Nat.reduceSub, Nat.reduceLT, Int.reduceToNat]))
    all_goals (try exact e11)

theorem c_spec_biPlace (seed part : Int) (s : Str) (n : Int) (h1 : 0 ≤ seed) (h2 : seed ≤ 9999) (h3 : 0 ≤ part) (h4 : part ≤ 9999) (h5 : 0 ≤ n) (h6 : n ≤ 1048576) : Fn Try.prog 89 [.int .i64 seed, .int .i64 part, .str s, .int .i64 n] (· = .int .i64 (placeV seed part s n)) := by
  refine Fn.of free_int fun h => ?_
  refine enter (by kernel_rfl) e89 (by kernel_rfl) rfl fun hok => ?_
  simp only [r89, initEnv_4]
  (try (simp (disch := first | omega | (simp <;> omega) | fail) only [push_cast, ↓reduceIte, Nat.reduceEqDiff, Nat.reduceAdd, Nat.reduceMul, Nat.reduceSub, Nat.reduceLT, Int.reduceToNat]))
  refine (c_spec_biHash seed part s h1 h2 h3 h4).call ?_
  have hb := hashV_bd seed part s
  have hm := mul_bd (x := hashV seed part s) (y := n) (a := 65521) (b := 1048576) (by omega) (by omega) h5 h6
  (try (simp (disch := first | omega | (simp <;> omega) | fail) only [push_cast, ↓reduceIte, Nat.reduceEqDiff, Nat.reduceAdd, Nat.reduceMul, Nat.reduceSub, Nat.reduceLT, Int.reduceToNat]))
  all_goals (try rfl)

theorem okSh_parts {s : Sh_} (h : okSh s = true) : 0 ≤ s.seed ∧ s.seed ≤ 9999 ∧ 1 ≤ (lP s.parts).length ∧ (lP s.parts).length ≤ 8 := by
  simp only [okSh, Bool.and_eq_true, decide_eq_true_eq] at h
  omega
def shardV (s : Sh_) (key : Str) : Int := placeV s.seed 9 key (lP s.parts).length
def shardOfV (s : Sh_) (key : Str) : AV := if okSh s && okKey key then .tup [.int .i64 (shardV s key), .bool true] else .tup [.int .i64 0, .bool false]
theorem free_shardOfV {s : Sh_} {key : Str} : Free (shardOfV s key) := by
  unfold shardOfV
  split <;> exact free_tup (free_cons_ free_int (free_cons_ free_bool free_nil_))

/-- The keys of a shard. -/
def shardL (seed : Int) (keys : List Str) (n : Nat) (k : Nat) : List Str := keys.filter fun s => decide (placeV seed 9 s n = (k : Int))
theorem shardL_nil {seed : Int} {n k : Nat} : shardL seed [] n k = [] := (rfl)
theorem shardL_take {seed : Int} {keys : List Str} {n i : Nat} (hi : i < keys.length) (k : Nat) :
    shardL seed (keys.take (i + 1)) n k = if placeV seed 9 (keys.getD i []) n = (k : Int) then shardL seed (keys.take i) n k ++ [keys.getD i []] else shardL seed (keys.take i) n k := by
  unfold shardL
  rw [List.take_add_one, List.filter_append]
  by_cases hp : placeV seed 9 (keys.getD i []) n = (k : Int)
  · rw [if_pos hp]
    simp [hi] at hp ⊢
    simp [hp]
  · rw [if_neg hp]
    simp [hi] at hp ⊢
    simp [hp]
theorem shardL_len {seed : Int} {keys : List Str} {n k : Nat} : (shardL seed keys n k).length ≤ keys.length := List.length_filter_le _ _
def splitV (seed : Int) (keys : List Str) (n : Nat) : List (List Str) := (List.range n).map (shardL seed keys n)
theorem splitV_len {seed : Int} {keys : List Str} {n : Nat} : (splitV seed keys n).length = n := by simp [splitV]
/-- The loop of the splitting: the slice in block h.length holds n slices. -/
def SpI (h h' : H) (n : Nat) (L : Nat → List Str) : Prop := h.length < h'.length ∧ ∃ vs Bs, SS h' h.length (.sl h.length 0 1 n n) n L vs [h.length] Bs

def InI (h h' : H) (v : AV) (n : Nat) (L : Nat → List Str) (vs : Nat → AV) (B : List Nat) (Bs : Nat → List Nat) (x : AV) (l : List Str) : Prop :=
  h.length ≤ h'.length ∧ SS h' h.length v n L vs B Bs ∧ ∃ Bx, S1 h' 1 x l.length (l.map .str) Bx ∧ (l = [] → x = .nils) ∧ ∀ b ∈ Bx, h.length ≤ b ∧ b ∉ B ∧ ∀ k, k < n → b ∉ Bs k
theorem c_spec_stSplit (seed : Int) (keys : Option (List Str)) (n : Nat) (h1 : 0 ≤ seed) (h2 : seed ≤ 9999) (h3 : 1 ≤ n) (h4 : n ≤ 8) (hl : (lS keys).length ≤ 40) :
    Fn Try.prog 49 [.int .i64 seed, eS keys, .int .i64 n] (· = eSS (splitV seed (lS keys) n)) := by
  refine Fn.froze_ fun h => ?_
  refine enter (by kernel_rfl) e49 (by kernel_rfl) rfl fun hok => ?_
  simp only [r49, initEnv_3]
  have hlen := ok_eS (okV_1 hok)
  (try (simp (disch := first | omega | (simp <;> omega) | fail) only [push_cast, ↓reduceIte, Nat.reduceEqDiff, Nat.reduceAdd, Nat.reduceMul, Nat.reduceSub, Nat.reduceLT, Int.reduceToNat]))
  refine T_for n (fun i e h' => ∃ v, Pins e [(0, .int .i64 seed), (1, eS keys), (2, .int .i64 n), (7, v), (8, .int .i64 i)] ∧ h.length ≤ h'.length ∧ ∃ vs B Bs, SS h' h.length v i (shardL seed (lS keys) n) vs B Bs) ?_ ?_
  · refine ⟨.nils, ?_, ?_⟩
    · (try (simp (disch := first | omega | (simp <;> omega) | fail) only [push_cast, ↓reduceIte, Nat.reduceEqDiff, Nat.reduceAdd, Nat.reduceMul, Nat.reduceSub, Nat.reduceLT, Int.reduceToNat]))
    · exact ⟨Nat.le_refl _, _, _, _, SS.empty (vs := fun _ => .nils) (Bs := fun _ => [])⟩
  rintro i e h' hi ⟨v, hp, hle, vs, B, Bs, hs⟩
  refine T_pins hp fun e => ?_
  (try (simp (disch := first | omega | (simp <;> omega) | fail) only [push_cast, ↓reduceIte, Nat.reduceEqDiff, Nat.reduceAdd, Nat.reduceMul, Nat.reduceSub, Nat.reduceLT, Int.reduceToNat]))
  first | refine goC_split (fun hc => ?_) (fun hc => ?_) | refine cnd_split (fun hc => ?_) (fun hc => ?_)
  · (try (simp only [decide_eq_true_eq, decide_eq_false_iff_not, Bool.not_eq_true', Bool.not_eq_false', Bool.and_eq_true, Bool.or_eq_true, Int.not_lt, Int.not_le] at hc)); (try (simp (disch := first | omega | (simp <;> omega) | fail) only [push_cast, ↓reduceIte, Nat.reduceEqDiff, Nat.reduceAdd, Nat.reduceMul, Nat.reduceSub, Nat.reduceLT, Int.reduceToNat]))
    have hin : i < n := by omega
    refine T_for (lS keys).length (fun j e h'' => ∃ x, Pins e [(0, .int .i64 seed), (1, eS keys), (2, .int .i64 n), (7, v), (8, .int .i64 i), (9, x), (17, eS keys), (18, .int .i64 (lS keys).length), (19, .int .i64 j)] ∧ InI h h'' v i (shardL seed (lS keys) n) vs B Bs x (shardL seed ((lS keys).take j) n i)) ?_ ?_
    · refine ⟨.nils, ?_, ?_⟩
      · (try (simp (disch := first | omega | (simp <;> omega) | fail) only [push_cast, ↓reduceIte, Nat.reduceEqDiff, Nat.reduceAdd, Nat.reduceMul, Nat.reduceSub, Nat.reduceLT, Int.reduceToNat]))
      · exact ⟨hle, hs, [], S1.nil, fun _ => rfl, by simp⟩
    rintro j e h'' hj ⟨x, hp, hle2, hs2, Bx, hx, hxn, hxb⟩
    refine T_pins hp fun e => ?_
    (try (simp (disch := first | omega | (simp <;> omega) | fail) only [push_cast, ↓reduceIte, Nat.reduceEqDiff, Nat.reduceAdd, Nat.reduceMul, Nat.reduceSub, Nat.reduceLT, Int.reduceToNat]))
    first | refine goC_split (fun hd => ?_) (fun hd => ?_) | refine cnd_split (fun hd => ?_) (fun hd => ?_)
    · (try (simp only [decide_eq_true_eq, decide_eq_false_iff_not, Bool.not_eq_true', Bool.not_eq_false', Bool.and_eq_true, Bool.or_eq_true, Int.not_lt, Int.not_le] at hd)); (try (simp (disch := first | omega | (simp <;> omega) | fail) only [push_cast, ↓reduceIte, Nat.reduceEqDiff, Nat.reduceAdd, Nat.reduceMul, Nat.reduceSub, Nat.reduceLT, Int.reduceToNat]))
      have hj2 : j < (lS keys).length := by omega
      (try (simp (disch := first | omega | (simp <;> omega) | fail) only [push_cast, ↓reduceIte, Nat.reduceEqDiff, Nat.reduceAdd, Nat.reduceMul, Nat.reduceSub, Nat.reduceLT, Int.reduceToNat]))
      refine (c_spec_biPlace seed 9 ((lS keys).getD j []) n (by omega) (by omega) (by omega) (by omega) (by omega) (by omega)).call ?_
      have hst := shardL_take (seed := seed) (n := n) hj2 i
      have hll : (shardL seed ((lS keys).take j) n i).length ≤ 40 := by
        have := shardL_len (seed := seed) (keys := (lS keys).take j) (n := n) (k := i)
        rw [List.length_take] at this
        omega
      (try (simp (disch := first | omega | (simp <;> omega) | fail) only [push_cast, ↓reduceIte, Nat.reduceEqDiff, Nat.reduceAdd, Nat.reduceMul, Nat.reduceSub, Nat.reduceLT, Int.reduceToNat]))
      first | refine goC_split (fun he => ?_) (fun he => ?_) | refine cnd_split (fun he => ?_) (fun he => ?_)
      · (try (simp only [decide_eq_true_eq, decide_eq_false_iff_not, Bool.not_eq_true', Bool.not_eq_false', Bool.and_eq_true, Bool.or_eq_true, Int.not_lt, Int.not_le] at he)); (try (simp (disch := first | omega | (simp <;> omega) | fail) only [push_cast, ↓reduceIte, Nat.reduceEqDiff, Nat.reduceAdd, Nat.reduceMul, Nat.reduceSub, Nat.reduceLT, Int.reduceToNat]))
        rw [if_pos he] at hst
        (try (simp (disch := first | omega | (simp <;> omega) | fail) only [push_cast, ↓reduceIte, Nat.reduceEqDiff, Nat.reduceAdd, Nat.reduceMul, Nat.reduceSub, Nat.reduceLT, Int.reduceToNat]))
        have hx2 := hx.frame (h' := h'' ++ [some (.cells [.str ((lS keys).getD j [])])]) fun b hb => List.getElem?_append_left (hx.lt b hb)
        refine S1.app hx2 (pm := fun b => Nowhere b ∨ h.length ≤ b) (by_ := 16) (k := 1) (new := [.str ((lS keys).getD j [])]) (fun b hb => Or.inr (hxb b hb).1) rfl (by decide) (by omega) ?_
        intro v' h3' B' q1 q2 q3 q4
        have q2' : h''.length < h3'.length := by simp at q2; omega
        (try (simp (disch := first | omega | (simp <;> omega) | fail) only [push_cast, ↓reduceIte, Nat.reduceEqDiff, Nat.reduceAdd, Nat.reduceMul, Nat.reduceSub, Nat.reduceLT, Int.reduceToNat]))
        refine ⟨_, rfl, by omega, hs2.frame2 (fun b hb => ?_) (fun k hk b hb => ?_), B', ?_, fun h0 => ?_, fun b hb => ?_⟩
        · have hb2 := hs2.1.lt b hb
          rw [q3 b (by simp; omega) (fun h5 => (hxb b h5).2.1 hb), List.getElem?_append_left hb2]
        · have hb2 := (hs2.2.2 k hk).1.lt b hb
          rw [q3 b (by simp; omega) (fun h5 => (hxb b h5).2.2 k hk hb), List.getElem?_append_left hb2]
        · rw [hst]
          simpa using q1
        · rw [hst] at h0
          simp at h0
        · rcases q4 b hb with h5 | h5
          · exact hxb b h5
          · simp at h5
            refine ⟨by omega, fun h6 => ?_, fun k hk h6 => ?_⟩
            · have := hs2.1.lt b h6
              omega
            · have := (hs2.2.2 k hk).1.lt b h6
              omega
      · (try (simp only [decide_eq_true_eq, decide_eq_false_iff_not, Bool.not_eq_true', Bool.not_eq_false', Bool.and_eq_true, Bool.or_eq_true, Int.not_lt, Int.not_le] at he)); (try (simp (disch := first | omega | (simp <;> omega) | fail) only [push_cast, ↓reduceIte, Nat.reduceEqDiff, Nat.reduceAdd, Nat.reduceMul, Nat.reduceSub, Nat.reduceLT, Int.reduceToNat]))
        rw [if_neg he] at hst
        (try (simp (disch := first | omega | (simp <;> omega) | fail) only [push_cast, ↓reduceIte, Nat.reduceEqDiff, Nat.reduceAdd, Nat.reduceMul, Nat.reduceSub, Nat.reduceLT, Int.reduceToNat]))
        refine ⟨_, rfl, hle2, hs2, Bx, ?_, ?_, hxb⟩
        · rw [hst]
          exact hx
        · rw [hst]
          exact hxn
    · (try (simp only [decide_eq_true_eq, decide_eq_false_iff_not, Bool.not_eq_true', Bool.not_eq_false', Bool.and_eq_true, Bool.or_eq_true, Int.not_lt, Int.not_le] at hd)); (try (simp (disch := first | omega | (simp <;> omega) | fail) only [push_cast, ↓reduceIte, Nat.reduceEqDiff, Nat.reduceAdd, Nat.reduceMul, Nat.reduceSub, Nat.reduceLT, Int.reduceToNat]))
      have he : (lS keys).take j = lS keys := List.take_of_length_le (by omega)
      rw [he] at hx hxn
      have hs3 := hs2.frame2 (h' := h'' ++ [some (.cells [x])]) (fun b hb => List.getElem?_append_left (hs2.1.lt b hb)) (fun k hk b hb => List.getElem?_append_left ((hs2.2.2 k hk).1.lt b hb))
      obtain ⟨hone, hcel⟩ := hx.one_
      have hfill : fillA (List.replicate 1 AV.nils) [(0, 1, x)] = some [x] := by
        rcases hx.2 with ⟨rfl, _, _⟩ | ⟨b, rfl, _, _⟩ <;> rfl
      (try (simp (disch := first | omega | (simp <;> omega) | fail) only [push_cast, ↓reduceIte, Nat.reduceEqDiff, Nat.reduceAdd, Nat.reduceMul, Nat.reduceSub, Nat.reduceLT, Int.reduceToNat, hone, hcel, hfill]))
      refine SS.app hs3 (pm := fun b => Nowhere b ∨ h.length ≤ b) (by_ := 24) (x := x) (l := shardL seed (lS keys) n i) (fun b hb => Or.inr hb) (by omega) (by simp; omega)
        (hx.frame fun b hb => List.getElem?_append_left (hx.lt b hb)) hxn hxb ?_
      intro v' h3' vs' B' Bs' q1 q2 q3
      have q2' : h''.length < h3'.length := by simp at q2; omega
      (try (simp (disch := first | omega | (simp <;> omega) | fail) only [push_cast, ↓reduceIte, Nat.reduceEqDiff, Nat.reduceAdd, Nat.reduceMul, Nat.reduceSub, Nat.reduceLT, Int.reduceToNat]))
      have q5 := q1.congr (L' := shardL seed (lS keys) n) fun k hk => by
        by_cases hki : k = i
        · subst hki
          rw [if_pos rfl]
        · rw [if_neg hki]
      first | exact ⟨_, rfl, by omega, _, _, _, q5⟩ | exact ⟨_, rfl, _, _, _, q5⟩
  · (try (simp only [decide_eq_true_eq, decide_eq_false_iff_not, Bool.not_eq_true', Bool.not_eq_false', Bool.and_eq_true, Bool.or_eq_true, Int.not_lt, Int.not_le] at hc)); (try (simp (disch := first | omega | (simp <;> omega) | fail) only [push_cast, ↓reduceIte, Nat.reduceEqDiff, Nat.reduceAdd, Nat.reduceMul, Nat.reduceSub, Nat.reduceLT, Int.reduceToNat]))
    have : i = n := by omega
    subst this
    exact ⟨_, hs.vw (by omega), rfl⟩

theorem placeV_bd {seed part : Int} {s : Str} {n : Int} (hn : 0 < n) : 0 ≤ placeV seed part s n ∧ placeV seed part s n < n := by
  obtain ⟨h1, h2⟩ := hashV_bd seed part s
  unfold placeV
  have h3 : 0 ≤ hashV seed part s * n := Int.mul_nonneg h1 (by omega)
  have h4 : hashV seed part s * n < 65521 * n := Int.mul_lt_mul_of_pos_right h2 hn
  constructor
  · omega
  · omega
/-- The places of a key. -/
def tri (seed : Int) (key : Str) (seg : Int) (n : Nat) : List Int := (List.range n).map fun j : Nat => placeV seed (j : Int) key seg + (j : Int) * seg
theorem tri_succ {seed : Int} {key : Str} {seg : Int} {n : Nat} : tri seed key seg (n + 1) = tri seed key seg n ++ [placeV seed (n : Int) key seg + (n : Int) * seg] := by simp [tri, List.range_succ]
theorem tri_len {seed : Int} {key : Str} {seg : Int} {n : Nat} : (tri seed key seg n).length = n := by simp [tri]
theorem tri_get {seed : Int} {key : Str} {seg : Int} {n i : Nat} (hi : i < n) : (tri seed key seg n).getD i 0 = placeV seed (i : Int) key seg + (i : Int) * seg := by simp [tri, hi]
theorem tri_bd {seed : Int} {key : Str} {seg : Int} {i : Nat} (hs : 0 < seg) (hi : i < 3) : 0 ≤ (tri seed key seg 3).getD i 0 ∧ (tri seed key seg 3).getD i 0 < 3 * seg := by
  rw [tri_get hi]
  have := placeV_bd (seed := seed) (part := (i : Int)) (s := key) hs
  have h3 : i = 0 ∨ i = 1 ∨ i = 2 := by omega
  rcases h3 with rfl | rfl | rfl <;> omega
def sumAt (m : List Int) (l : List Int) : Int := (l.map fun p => m.getD p.toNat 0).sum
theorem sumAt_take {m l : List Int} {i : Nat} (hi : i < l.length) : sumAt m (l.take (i + 1)) = sumAt m (l.take i) + m.getD (l.getD i 0).toNat 0 := by
  unfold sumAt
  rw [List.take_add_one, List.map_append, List.sum_append]
  simp [hi]
theorem okMarks_get {m : List Int} (h : okMarks m = true) (i : Nat) : 0 ≤ m.getD i 0 ∧ m.getD i 0 ≤ 3 := by
  by_cases hi : i < m.length
  · have := List.all_eq_true.1 h (m.getD i 0) (by simp [hi])
    simp only [Bool.and_eq_true, decide_eq_true_eq] at this
    exact this
  · simp [hi]
theorem sumAt_bd {m : List Int} (h : okMarks m = true) : ∀ l : List Int, 0 ≤ sumAt m l ∧ sumAt m l ≤ 3 * l.length
  | [] => by simp [sumAt]
  | p :: l => by
    have h1 := sumAt_bd h l
    have h2 := okMarks_get h p.toNat
    have h3 : sumAt m (p :: l) = m.getD p.toNat 0 + sumAt m l := by simp [sumAt]
    rw [h3]
    simp only [List.length_cons]
    omega
/-- The place to which a key is led. -/
def leadV (p : Pd) (key : Str) : Int := (tri p.seed key p.seg 3).getD (sumAt (lI p.marks) (tri p.seed key p.seg 3) % 3).toNat 0
structure OkP (p : Pd) : Prop where
  s0 : 0 ≤ p.seed
  s1 : p.seed ≤ 9999
  g0 : 1 ≤ p.seg
  g1 : p.seg ≤ 24
  ml : ((lI p.marks).length : Int) = 3 * p.seg
  mo : okMarks (lI p.marks) = true
theorem okP_of {p : Pd} (h : okPd p = true) : OkP p := by
  simp only [okPd, Bool.and_eq_true, decide_eq_true_eq] at h
  exact ⟨h.1.1, h.1.2, h.2.1.1, h.2.1.2, h.2.2.1, h.2.2.2⟩
theorem leadV_bd {p : Pd} (h : OkP p) (key : Str) : 0 ≤ leadV p key ∧ leadV p key < (lI p.marks).length := by
  have hs := sumAt_bd h.mo (tri p.seed key p.seg 3)
  have := tri_bd (seed := p.seed) (key := key) (seg := p.seg) (i := (sumAt (lI p.marks) (tri p.seed key p.seg 3) % 3).toNat) (by have := h.g0; omega) (by omega)
  have := h.ml
  unfold leadV
  omega

theorem c_spec_peTriple (seed : Int) (key : Str) (seg : Int) (h1 : 0 ≤ seed) (h2 : seed ≤ 9999) (h3 : 1 ≤ seg) (h4 : seg ≤ 24) : Fn Try.prog 127 [.int .i64 seed, .str key, .int .i64 seg] (fun x => ∃ o, x = eI o ∧ lI o = tri seed key seg 3) := by
  refine Fn.froze_ fun h => ?_
  refine enter (by kernel_rfl) e127 (by kernel_rfl) rfl fun hok => ?_
  simp only [r127, initEnv_3]
  (try (simp (disch := first | omega | (simp <;> omega) | fail) only [push_cast, ↓reduceIte, Nat.reduceEqDiff, Nat.reduceAdd, Nat.reduceMul, Nat.reduceSub, Nat.reduceLT, Int.reduceToNat]))
  refine T_for 3 (fun i e h' => ∃ v, Pins e [(0, .int .i64 seed), (1, .str key), (2, .int .i64 seg), (7, v), (8, .int .i64 i)] ∧ Gr h h' 1 v i ((tri seed key seg i).map (.int .i64))) ?_ ?_
  · refine ⟨.nils, ?_, Gr.refl⟩
    (try (simp (disch := first | omega | (simp <;> omega) | fail) only [push_cast, ↓reduceIte, Nat.reduceEqDiff, Nat.reduceAdd, Nat.reduceMul, Nat.reduceSub, Nat.reduceLT, Int.reduceToNat]))
  rintro i e h' hi ⟨v, hp, hg⟩
  refine T_pins hp fun e => ?_
  (try (simp (disch := first | omega | (simp <;> omega) | fail) only [push_cast, ↓reduceIte, Nat.reduceEqDiff, Nat.reduceAdd, Nat.reduceMul, Nat.reduceSub, Nat.reduceLT, Int.reduceToNat]))
  first | refine goC_split (fun hc => ?_) (fun hc => ?_) | refine cnd_split (fun hc => ?_) (fun hc => ?_)
  · (try (simp only [decide_eq_true_eq, decide_eq_false_iff_not, Bool.not_eq_true', Bool.not_eq_false', Bool.and_eq_true, Bool.or_eq_true, Int.not_lt, Int.not_le] at hc)); (try (simp (disch := first | omega | (simp <;> omega) | fail) only [push_cast, ↓reduceIte, Nat.reduceEqDiff, Nat.reduceAdd, Nat.reduceMul, Nat.reduceSub, Nat.reduceLT, Int.reduceToNat]))
    have hb := placeV_bd (seed := seed) (part := (i : Int)) (s := key) (n := seg) (by omega)
    have hm := mul_bd (x := (i : Int)) (y := seg) (a := 3) (b := 24) (by omega) (by omega) (by omega) (by omega)
    refine (c_spec_biPlace seed i key seg (by omega) (by omega) (by omega) (by omega) (by omega) (by omega)).call ?_
    (try (simp (disch := first | omega | (simp <;> omega) | fail) only [push_cast, ↓reduceIte, Nat.reduceEqDiff, Nat.reduceAdd, Nat.reduceMul, Nat.reduceSub, Nat.reduceLT, Int.reduceToNat]))
    refine Gr.app2 hg (fun b hb => .inr hb) (new := [.int .i64 (placeV seed i key seg + i * seg)]) rfl (by decide) (by omega) ?_
    intro v' p' q hpl _ hg'
    (try (simp (disch := first | omega | (simp <;> omega) | fail) only [push_cast, ↓reduceIte, Nat.reduceEqDiff, Nat.reduceAdd, Nat.reduceMul, Nat.reduceSub, Nat.reduceLT, Int.reduceToNat]))
    refine ⟨v', rfl, ?_⟩
    rw [tri_succ, List.map_append]
    exact hg'
  · (try (simp only [decide_eq_true_eq, decide_eq_false_iff_not, Bool.not_eq_true', Bool.not_eq_false', Bool.and_eq_true, Bool.or_eq_true, Int.not_lt, Int.not_le] at hc)); (try (simp (disch := first | omega | (simp <;> omega) | fail) only [push_cast, ↓reduceIte, Nat.reduceEqDiff, Nat.reduceAdd, Nat.reduceMul, Nat.reduceSub, Nat.reduceLT, Int.reduceToNat]))
    have : i = 3 := by omega
    subst this
    obtain ⟨o, h5, h6⟩ := Gr.vwI (h := h) (h' := h') (v := v) (l := tri seed key seg 3) (by rw [tri_len]; exact hg)
    exact ⟨eI o, h5, o, rfl, h6⟩

theorem c_spec_pfSum (m l : Option (List Int)) (hm : okMarks (lI m) = true) (hl : (lI l).length ≤ 100) (hp : ∀ i, i < (lI l).length → 0 ≤ (lI l).getD i 0 ∧ (lI l).getD i 0 < (lI m).length) : Fn Try.prog 108 [eI m, eI l] (· = .int .i64 (sumAt (lI m) (lI l))) := by
  refine Fn.of free_int fun h => ?_
  refine enter (by kernel_rfl) e108 (by kernel_rfl) rfl fun hok => ?_
  simp only [r108, initEnv_2]
  (try (simp (disch := first | omega | (simp <;> omega) | fail) only [push_cast, ↓reduceIte, Nat.reduceEqDiff, Nat.reduceAdd, Nat.reduceMul, Nat.reduceSub, Nat.reduceLT, Int.reduceToNat]))
  refine T_for (lI l).length (fun i e h' => Pins e [(0, eI m), (5, .int .i64 (sumAt (lI m) ((lI l).take i))), (8, eI l), (9, .int .i64 (lI l).length), (10, .int .i64 i)] ∧ h' = h) ?_ ?_
  · (try (simp (disch := first | omega | (simp <;> omega) | fail) only [push_cast, ↓reduceIte, Nat.reduceEqDiff, Nat.reduceAdd, Nat.reduceMul, Nat.reduceSub, Nat.reduceLT, Int.reduceToNat]))
    all_goals (try simp [sumAt])
  rintro i e h' hi ⟨hq, rfl⟩
  refine T_pins hq fun e => ?_
  have hs := sumAt_bd hm ((lI l).take i)
  have hsl : ((lI l).take i).length = i := by simp; omega
  (try (simp (disch := first | omega | (simp <;> omega) | fail) only [push_cast, ↓reduceIte, Nat.reduceEqDiff, Nat.reduceAdd, Nat.reduceMul, Nat.reduceSub, Nat.reduceLT, Int.reduceToNat]))
  first | refine goC_split (fun hc => ?_) (fun hc => ?_) | refine cnd_split (fun hc => ?_) (fun hc => ?_)
  · (try (simp only [decide_eq_true_eq, decide_eq_false_iff_not, Bool.not_eq_true', Bool.not_eq_false', Bool.and_eq_true, Bool.or_eq_true, Int.not_lt, Int.not_le] at hc)); (try (simp (disch := first | omega | (simp <;> omega) | fail) only [push_cast, ↓reduceIte, Nat.reduceEqDiff, Nat.reduceAdd, Nat.reduceMul, Nat.reduceSub, Nat.reduceLT, Int.reduceToNat]))
    have hi2 : i < (lI l).length := by omega
    obtain ⟨p1, p2⟩ := hp i hi2
    have hg := okMarks_get hm ((lI l).getD i 0).toNat
    have hst := sumAt_take (m := lI m) hi2
    (try (simp (disch := first | omega | (simp <;> omega) | fail) only [push_cast, ↓reduceIte, Nat.reduceEqDiff, Nat.reduceAdd, Nat.reduceMul, Nat.reduceSub, Nat.reduceLT, Int.reduceToNat]))
    all_goals (try (rw [hst]))
  · (try (simp only [decide_eq_true_eq, decide_eq_false_iff_not, Bool.not_eq_true', Bool.not_eq_false', Bool.and_eq_true, Bool.or_eq_true, Int.not_lt, Int.not_le] at hc)); (try (simp (disch := first | omega | (simp <;> omega) | fail) only [push_cast, ↓reduceIte, Nat.reduceEqDiff, Nat.reduceAdd, Nat.reduceMul, Nat.reduceSub, Nat.reduceLT, Int.reduceToNat]))
    have : (lI l).take i = lI l := List.take_of_length_le (by omega)
    rw [this]

theorem c_spec_pfPlace (p : Pd) (key : Str) (hk : OkP p) : Fn Try.prog 98 [eP p, .str key] (· = .int .i64 (leadV p key)) := by
  refine Fn.of free_int fun h => ?_
  refine enter (by kernel_rfl) e98 (by kernel_rfl) rfl fun hok => ?_
  simp only [r98, initEnv_2]
  have hml := hk.ml
  have hg0 := hk.g0
  (try (simp (disch := first | omega | (simp <;> omega) | fail) only [push_cast, ↓reduceIte, Nat.reduceEqDiff, Nat.reduceAdd, Nat.reduceMul, Nat.reduceSub, Nat.reduceLT, Int.reduceToNat]))
  refine (c_spec_peTriple p.seed key p.seg hk.s0 hk.s1 hk.g0 hk.g1).use ?_
  rintro x ⟨o, rfl, ho⟩
  have hol : (lI o).length = 3 := by rw [ho, tri_len]
  (try (simp (disch := first | omega | (simp <;> omega) | fail) only [push_cast, ↓reduceIte, Nat.reduceEqDiff, Nat.reduceAdd, Nat.reduceMul, Nat.reduceSub, Nat.reduceLT, Int.reduceToNat]))
  refine (c_spec_pfSum p.marks o hk.mo (by omega) (fun i hi => by
    have := tri_bd (seed := p.seed) (key := key) (seg := p.seg) (i := i) (by omega) (by omega)
    rw [ho]
    omega)).call ?_
  have hs := sumAt_bd hk.mo (lI o)
  (try (simp (disch := first | omega | (simp <;> omega) | fail) only [push_cast, ↓reduceIte, Nat.reduceEqDiff, Nat.reduceAdd, Nat.reduceMul, Nat.reduceSub, Nat.reduceLT, Int.reduceToNat]))
  unfold leadV
  rw [ho]

theorem c_spec_l1Has (a : Option (List Int)) (n : Int) : Fn Try.prog 101 [eI a, .int .i64 n] (· = .bool (decide (n ∈ lI a))) := by
  refine Fn.of free_bool fun h => ?_
  refine enter (by kernel_rfl) e101 (by kernel_rfl) rfl fun hok => ?_
  simp only [r101, initEnv_2]
  have hlen := ok_eI (okV_0 hok)
  (try (simp (disch := first | omega | (simp <;> omega) | fail) only [push_cast, ↓reduceIte, Nat.reduceEqDiff, Nat.reduceAdd, Nat.reduceMul, Nat.reduceSub, Nat.reduceLT, Int.reduceToNat]))
  refine T_for (lI a).length (fun i e h' => Pins e [(1, .int .i64 n), (7, eI a), (8, .int .i64 (lI a).length), (9, .int .i64 i)] ∧ h' = h ∧ n ∉ (lI a).take i) ?_ ?_
  · (try (simp (disch := first | omega | (simp <;> omega) | fail) only [push_cast, ↓reduceIte, Nat.reduceEqDiff, Nat.reduceAdd, Nat.reduceMul, Nat.reduceSub, Nat.reduceLT, Int.reduceToNat]))
    all_goals (try simp)
  rintro i e h' hi ⟨hp, rfl, hnd⟩
  refine T_pins hp fun e => ?_
  (try (simp (disch := first | omega | (simp <;> omega) | fail) only [push_cast, ↓reduceIte, Nat.reduceEqDiff, Nat.reduceAdd, Nat.reduceMul, Nat.reduceSub, Nat.reduceLT, Int.reduceToNat]))
  first | refine goC_split (fun hc => ?_) (fun hc => ?_) | refine cnd_split (fun hc => ?_) (fun hc => ?_)
  · (try (simp only [decide_eq_true_eq, decide_eq_false_iff_not, Bool.not_eq_true', Bool.not_eq_false', Bool.and_eq_true, Bool.or_eq_true, Int.not_lt, Int.not_le] at hc)); (try (simp (disch := first | omega | (simp <;> omega) | fail) only [push_cast, ↓reduceIte, Nat.reduceEqDiff, Nat.reduceAdd, Nat.reduceMul, Nat.reduceSub, Nat.reduceLT, Int.reduceToNat]))
    have hi2 : i < (lI a).length := by omega
    have htk : (lI a).take (i + 1) = (lI a).take i ++ [(lI a).getD i 0] := by
      rw [List.take_add_one]
      simp [hi2]
    (try (simp (disch := first | omega | (simp <;> omega) | fail) only [push_cast, ↓reduceIte, Nat.reduceEqDiff, Nat.reduceAdd, Nat.reduceMul, Nat.reduceSub, Nat.reduceLT, Int.reduceToNat]))
    first | refine goC_split (fun hd => ?_) (fun hd => ?_) | refine cnd_split (fun hd => ?_) (fun hd => ?_)
    · (try (simp only [decide_eq_true_eq, decide_eq_false_iff_not, Bool.not_eq_true', Bool.not_eq_false', Bool.and_eq_true, Bool.or_eq_true, Int.not_lt, Int.not_le] at hd)); (try (simp (disch := first | omega | (simp <;> omega) | fail) only [push_cast, ↓reduceIte, Nat.reduceEqDiff, Nat.reduceAdd, Nat.reduceMul, Nat.reduceSub, Nat.reduceLT, Int.reduceToNat]))
      symm
      rw [decide_eq_true_iff, ← hd]
      simp [hi2]
    · (try (simp only [decide_eq_true_eq, decide_eq_false_iff_not, Bool.not_eq_true', Bool.not_eq_false', Bool.and_eq_true, Bool.or_eq_true, Int.not_lt, Int.not_le] at hd)); (try (simp (disch := first | omega | (simp <;> omega) | fail) only [push_cast, ↓reduceIte, Nat.reduceEqDiff, Nat.reduceAdd, Nat.reduceMul, Nat.reduceSub, Nat.reduceLT, Int.reduceToNat]))
      rw [htk]
      simp only [List.mem_append, List.mem_singleton, not_or]
      exact ⟨hnd, fun he => hd he.symm⟩
  · (try (simp only [decide_eq_true_eq, decide_eq_false_iff_not, Bool.not_eq_true', Bool.not_eq_false', Bool.and_eq_true, Bool.or_eq_true, Int.not_lt, Int.not_le] at hc)); (try (simp (disch := first | omega | (simp <;> omega) | fail) only [push_cast, ↓reduceIte, Nat.reduceEqDiff, Nat.reduceAdd, Nat.reduceMul, Nat.reduceSub, Nat.reduceLT, Int.reduceToNat]))
    have he : (lI a).take i = lI a := List.take_of_length_le (by omega)
    rw [he] at hnd
    simp [hnd]

def freeAt (p : Pd) (key : Str) : Bool := decide ((lI p.marks).getD (leadV p key).toNat 0 = 3)
def indexV (p : Pd) (key : Str) : AV := if freeAt p key then .tup [.int .i64 0, .bool false] else .tup [.int .i64 (rank (lI p.marks) (leadV p key).toNat), .bool true]
theorem free_indexV {p : Pd} {key : Str} : Free (indexV p key) := by
  unfold indexV
  split <;> exact free_tup (free_cons_ free_int (free_cons_ free_bool free_nil_))
theorem shardV_bd {s : Sh_} (h : okSh s = true) (key : Str) : 0 ≤ shardV s key ∧ shardV s key < (lP s.parts).length := by
  have := okSh_parts h
  exact placeV_bd (by omega)
def shIxV (s : Sh_) (key : Str) : AV := if okSh s && okKey key then
    (if freeAt ((lP s.parts).getD (shardV s key).toNat default) key then .tup [.int .i64 0, .bool false]
     else .tup [.int .i64 (offAt (lP s.parts) (shardV s key).toNat + rank (lI ((lP s.parts).getD (shardV s key).toNat default).marks) (leadV ((lP s.parts).getD (shardV s key).toNat default) key).toNat), .bool true])
  else .tup [.int .i64 0, .bool false]
theorem free_shIxV {s : Sh_} {key : Str} : Free (shIxV s key) := by
  unfold shIxV
  split
  · split <;> exact free_tup (free_cons_ free_int (free_cons_ free_bool free_nil_))
  · exact free_tup (free_cons_ free_int (free_cons_ free_bool free_nil_))

def leadsL (p : Pd) (keys : List Str) : List Int := keys.map (leadV p)
def ranksL (p : Pd) (keys : List Str) : List Int := keys.map fun s => (rank (lI p.marks) (leadV p s).toNat : Int)
def fitsV (p : Pd) (keys : List Str) : Bool := (keys.all fun s => !freeAt p s) && (decide (leadsL p keys).Nodup && decide ((rank (lI p.marks) (lI p.marks).length : Int) = (keys.length : Int)))
theorem rank_mono {l : List Int} {a : Nat} : ∀ b, a ≤ b → b ≤ l.length → rank l a ≤ rank l b
  | 0, h1, _ => by
    have : a = 0 := by omega
    subst this
    exact Nat.le_refl _
  | b + 1, h1, h2 => by
    by_cases hab : a = b + 1
    · rw [hab]
      exact Nat.le_refl _
    · have := rank_mono (l := l) (a := a) b (by omega) (by omega)
      rw [rank_succ (by omega)]
      omega
theorem rank_inj {l : List Int} {a b : Nat} (ha : a < l.length) (hb : b < l.length) (fa : l.getD a 0 ≠ 3) (fb : l.getD b 0 ≠ 3) (h : rank l a = rank l b) : a = b := by
  rcases Nat.lt_trichotomy a b with h1 | h1 | h1
  · have := rank_mono (l := l) (a := a + 1) b h1 (by omega)
    rw [rank_succ ha, if_neg fa] at this
    omega
  · exact h1
  · have := rank_mono (l := l) (a := b + 1) a h1 (by omega)
    rw [rank_succ hb, if_neg fb] at this
    omega
theorem ranks_nodup {p : Pd} (hp : OkP p) : ∀ {keys : List Str}, (keys.all fun s => !freeAt p s) = true → ((ranksL p keys).Nodup ↔ (leadsL p keys).Nodup)
  | [], _ => by simp [ranksL, leadsL]
  | s :: keys, ha => by
    simp only [List.all_cons, Bool.and_eq_true] at ha
    have ih := ranks_nodup hp ha.2
    unfold ranksL leadsL at ih ⊢
    simp only [List.map_cons, List.nodup_cons, ih]
    refine and_congr_left fun _ => not_congr ?_
    simp only [List.mem_map]
    constructor
    · rintro ⟨t, ht, he⟩
      refine ⟨t, ht, ?_⟩
      have ft := List.all_eq_true.1 ha.2 t ht
      have fs := ha.1
      simp only [freeAt, Bool.not_eq_true', decide_eq_false_iff_not] at ft fs
      obtain ⟨a1, a2⟩ := leadV_bd hp t
      obtain ⟨b1, b2⟩ := leadV_bd hp s
      have := rank_inj (l := lI p.marks) (a := (leadV p t).toNat) (b := (leadV p s).toNat) (by omega) (by omega) ft fs (by omega)
      omega
    · rintro ⟨t, ht, he⟩
      exact ⟨t, ht, by rw [he]⟩
theorem fitsV_ranks {p : Pd} (hp : OkP p) {keys : List Str} (ha : (keys.all fun s => !freeAt p s) = true) : fitsV p keys = (decide (ranksL p keys).Nodup && decide ((rank (lI p.marks) (lI p.marks).length : Int) = (keys.length : Int))) := by
  unfold fitsV
  rw [ha, Bool.true_and, decide_eq_decide.2 (ranks_nodup hp ha)]
theorem all_take {f : Str → Bool} {l : List Str} {i : Nat} (hi : i < l.length) : (l.take (i + 1)).all f = ((l.take i).all f && f (l.getD i [])) := by
  rw [List.take_add_one, List.all_append]
  simp [hi]
theorem all_no {f : Str → Bool} {l : List Str} {i : Nat} (hi : i < l.length) (hf : f (l.getD i []) = false) : l.all f = false := by
  rw [List.all_eq_false]
  exact ⟨l.getD i [], by simp [hi], by rw [hf]; simp⟩

theorem c_spec_pfFits (p : Pd) (keys : Option (List Str)) (hk : okPd p = true) (hl : (lS keys).length ≤ 40) : Fn Try.prog 71 [eP p, eS keys] (· = .bool (fitsV p (lS keys))) := by
  refine Fn.of free_bool fun h => ?_
  refine enter (by kernel_rfl) e71 (by kernel_rfl) rfl fun hok => ?_
  simp only [r71, initEnv_2]
  have hlen := ok_eS (okV_1 hok)
  have hop := okP_of hk
  (try (simp (disch := first | omega | (simp <;> omega) | fail) only [push_cast, ↓reduceIte, Nat.reduceEqDiff, Nat.reduceAdd, Nat.reduceMul, Nat.reduceSub, Nat.reduceLT, Int.reduceToNat]))
  refine T_for (lS keys).length (fun i e h' => ∃ v, Pins e [(1, eS keys), (2, .adr h.length 0), (5, v), (9, eS keys), (10, .int .i64 (lS keys).length), (11, .int .i64 i)] ∧ ((h.length < h'.length ∧ H.cells h' h.length = some (cP p)) ∧ Gr (h ++ [some (.cells (cP p))]) h' 1 v i ((leadsL p ((lS keys).take i)).map (.int .i64))) ∧ ((lS keys).take i).all (fun s => !freeAt p s) = true ∧ (leadsL p ((lS keys).take i)).Nodup) ?_ ?_
  · refine ⟨.nils, ?_, ?_⟩
    · (try (simp (disch := first | omega | (simp <;> omega) | fail) only [push_cast, ↓reduceIte, Nat.reduceEqDiff, Nat.reduceAdd, Nat.reduceMul, Nat.reduceSub, Nat.reduceLT, Int.reduceToNat]))
    · exact ⟨⟨⟨by simp, by rw [cells_h0]; rfl⟩, Gr.refl⟩, by simp, by simp [leadsL]⟩
  rintro i e h' hi ⟨v, hp, ⟨⟨hlt, hbox⟩, hg⟩, ha, hnd⟩
  refine T_pins hp fun e => ?_
  (try (simp (disch := first | omega | (simp <;> omega) | fail) only [push_cast, ↓reduceIte, Nat.reduceEqDiff, Nat.reduceAdd, Nat.reduceMul, Nat.reduceSub, Nat.reduceLT, Int.reduceToNat, hbox]))
  first | refine goC_split (fun hc => ?_) (fun hc => ?_) | refine cnd_split (fun hc => ?_) (fun hc => ?_)
  · (try (simp only [decide_eq_true_eq, decide_eq_false_iff_not, Bool.not_eq_true', Bool.not_eq_false', Bool.and_eq_true, Bool.or_eq_true, Int.not_lt, Int.not_le] at hc)); (try (simp (disch := first | omega | (simp <;> omega) | fail) only [push_cast, ↓reduceIte, Nat.reduceEqDiff, Nat.reduceAdd, Nat.reduceMul, Nat.reduceSub, Nat.reduceLT, Int.reduceToNat]))
    have hi2 : i < (lS keys).length := by omega
    have hat := all_take (f := fun s => !freeAt p s) hi2
    have hlt2 : leadsL p ((lS keys).take (i + 1)) = leadsL p ((lS keys).take i) ++ [leadV p ((lS keys).getD i [])] := by
      unfold leadsL
      rw [List.take_add_one, List.map_append]
      simp [hi2]
    obtain ⟨c1, c2⟩ := leadV_bd hop ((lS keys).getD i [])
    (try (simp (disch := first | omega | (simp <;> omega) | fail) only [push_cast, ↓reduceIte, Nat.reduceEqDiff, Nat.reduceAdd, Nat.reduceMul, Nat.reduceSub, Nat.reduceLT, Int.reduceToNat, hbox]))
    refine (c_spec_pfPlace p ((lS keys).getD i []) hop).call ?_
    (try (simp (disch := first | omega | (simp <;> omega) | fail) only [push_cast, ↓reduceIte, Nat.reduceEqDiff, Nat.reduceAdd, Nat.reduceMul, Nat.reduceSub, Nat.reduceLT, Int.reduceToNat, hbox]))
    cases hf : freeAt p ((lS keys).getD i [])
    · have hf2 := hf
      unfold freeAt at hf2
      simp only [decide_eq_false_iff_not] at hf2
      (try (simp (disch := first | omega | (simp <;> omega) | fail) only [push_cast, ↓reduceIte, Nat.reduceEqDiff, Nat.reduceAdd, Nat.reduceMul, Nat.reduceSub, Nat.reduceLT, Int.reduceToNat, hbox, hf2]))
      have hw := hg.vwI2 (l := leadsL p ((lS keys).take i)) (by simp [leadsL]; omega)
      obtain ⟨o, hw, ho⟩ := hw
      refine (c_spec_l1Has o (leadV p ((lS keys).getD i []))).lendL (.cons (hw.mono (Nat.zero_le _)) (.free free_int .nil)) own_bool ?_
      rw [ho]
      by_cases hm : leadV p ((lS keys).getD i []) ∈ leadsL p ((lS keys).take i)
      · (try (simp (disch := first | omega | (simp <;> omega) | fail) only [push_cast, ↓reduceIte, Nat.reduceEqDiff, Nat.reduceAdd, Nat.reduceMul, Nat.reduceSub, Nat.reduceLT, Int.reduceToNat, hbox, hm]))
        have : fitsV p (lS keys) = false := by
          unfold fitsV
          have : ¬ (leadsL p (lS keys)).Nodup := fun hn => by
            have hsub : (leadsL p ((lS keys).take (i + 1))).Sublist (leadsL p (lS keys)) := List.Sublist.map _ (List.take_sublist _ _)
            have := hsub.nodup hn
            rw [hlt2, List.nodup_append] at this
            exact this.2.2 _ hm _ (by simp) rfl
          simp [this]
        rw [this]
      · (try (simp (disch := first | omega | (simp <;> omega) | fail) only [push_cast, ↓reduceIte, Nat.reduceEqDiff, Nat.reduceAdd, Nat.reduceMul, Nat.reduceSub, Nat.reduceLT, Int.reduceToNat, hbox, hm]))
        refine Gr.app2 hg (fun b hb => .inr (by simp at hb; omega)) (new := [.int .i64 (leadV p ((lS keys).getD i []))]) rfl (by decide) (by omega) ?_
        intro v' p' q hpl hpk hg'
        have hbox2 : H.cells p' h.length = some (cP p) := by
          rw [cells_eq, hpk h.length (fun o s m c hv => ?_), ← cells_eq]
          · exact hbox
          · subst hv
            rcases hg.2.2 with ⟨h0, _⟩ | ⟨b, kc, cs, hb, he, _⟩
            · cases h0
            · cases he
              simp at hb
              omega
        (try (simp (disch := first | omega | (simp <;> omega) | fail) only [push_cast, ↓reduceIte, Nat.reduceEqDiff, Nat.reduceAdd, Nat.reduceMul, Nat.reduceSub, Nat.reduceLT, Int.reduceToNat]))
        have hg2 : Gr (h ++ [some (AObj.cells (cP p))]) (p' ++ ([some (AObj.cells [.int .i64 (leadV p ((lS keys).getD i []))])] ++ q)) 1 v' (i + 1) ((leadsL p ((lS keys).take (i + 1))).map (.int .i64)) := by
          rw [hlt2, List.map_append]
          exact hg'
        have hbox3 := cells_app (l := [some (AObj.cells [.int .i64 (leadV p ((lS keys).getD i []))])] ++ q) hbox2
        have hlq : h.length < (p' ++ ([some (AObj.cells [.int .i64 (leadV p ((lS keys).getD i []))])] ++ q)).length := by
          simp
          omega
        refine ⟨_, rfl, ?_, ?_, ?_⟩
        · first | exact ⟨⟨hlq, hbox3⟩, hg2⟩ | exact ⟨hbox3, hg2⟩ | exact ⟨hbox2, hg2⟩ | exact ⟨⟨hlq, hbox2⟩, hg2⟩
        · rw [hat, ha, hf]
          rfl
        · rw [hlt2, List.nodup_append]
          refine ⟨hnd, by simp, ?_⟩
          intro x hx y hy
          simp at hy
          subst hy
          intro he
          exact hm (he ▸ hx)
    · have hf2 := hf
      unfold freeAt at hf2
      simp only [decide_eq_true_eq] at hf2
      (try (simp (disch := first | omega | (simp <;> omega) | fail) only [push_cast, ↓reduceIte, Nat.reduceEqDiff, Nat.reduceAdd, Nat.reduceMul, Nat.reduceSub, Nat.reduceLT, Int.reduceToNat, hbox, hf2]))
      have : fitsV p (lS keys) = false := by
        unfold fitsV
        rw [all_no hi2 (by rw [hf]; rfl)]
        rfl
      rw [this]
  · (try (simp only [decide_eq_true_eq, decide_eq_false_iff_not, Bool.not_eq_true', Bool.not_eq_false', Bool.and_eq_true, Bool.or_eq_true, Int.not_lt, Int.not_le] at hc)); (try (simp (disch := first | omega | (simp <;> omega) | fail) only [push_cast, ↓reduceIte, Nat.reduceEqDiff, Nat.reduceAdd, Nat.reduceMul, Nat.reduceSub, Nat.reduceLT, Int.reduceToNat]))
    have he : (lS keys).take i = lS keys := List.take_of_length_le (by omega)
    rw [he] at ha hnd
    have hml := okPd_len hk
    have hfv : fitsV p (lS keys) = decide ((rank (lI p.marks) (lI p.marks).length : Int) = ((lS keys).length : Int)) := by
      unfold fitsV
      rw [ha]
      simp [hnd]
    rw [hfv]
    (try (simp (disch := first | omega | (simp <;> omega) | fail) only [push_cast, ↓reduceIte, Nat.reduceEqDiff, Nat.reduceAdd, Nat.reduceMul, Nat.reduceSub, Nat.reduceLT, Int.reduceToNat, hbox]))
    refine (c_spec_pfRank p _ (Nat.le_refl _)).call ?_
    (try (simp (disch := first | omega | (simp <;> omega) | fail) only [push_cast, ↓reduceIte, Nat.reduceEqDiff, Nat.reduceAdd, Nat.reduceMul, Nat.reduceSub, Nat.reduceLT, Int.reduceToNat, hbox]))
    (first | refine goC_split (fun hc => ?_) (fun hc => ?_) | refine cnd_split (fun hc => ?_) (fun hc => ?_)) <;> ((try (simp (disch := first | omega | (simp <;> omega) | fail) only [push_cast, ↓reduceIte, Nat.reduceEqDiff, Nat.reduceAdd, Nat.reduceMul, Nat.reduceSub, Nat.reduceLT, Int.reduceToNat]))) <;> (try rw [hc])

def shForV (s : Sh_) (keys : List Str) : AV := if okSh s && okKeys keys then .tup [.bool ((List.range (lP s.parts).length).all fun i => fitsV ((lP s.parts).getD i default) (shardL s.seed keys (lP s.parts).length i)), .bool true] else .tup [.bool false, .bool false]
theorem free_shForV {s : Sh_} {keys : List Str} : Free (shForV s keys) := by
  unfold shForV
  split <;> exact free_tup (free_cons_ free_bool (free_cons_ free_bool free_nil_))
theorem okKeys_len {l : List Str} (h : okKeys l = true) : l.length ≤ 40 := by
  simp only [okKeys, Bool.and_eq_true, decide_eq_true_eq] at h
  omega
theorem get_splitV {seed : Int} {keys : List Str} {n i : Nat} (hi : i < n) : ((splitV seed keys n).map nS)[i]? = some (nS (shardL seed keys n i)) := by
  simp [splitV, hi]
theorem all_range {f : Nat → Bool} {i : Nat} : (List.range (i + 1)).all f = ((List.range i).all f && f i) := by
  rw [List.range_succ, List.all_append]
  simp
theorem all_range_no {f : Nat → Bool} {n i : Nat} (hi : i < n) (hf : f i = false) : (List.range n).all f = false := by
  rw [List.all_eq_false]
  exact ⟨i, by simp [hi], by rw [hf]; simp⟩

theorem c_spec_IsShardedFor (s : Sh_) (keys : Option (List Str)) : Fn Try.prog 29 [eSh s, eS keys] (· = shForV s (lS keys)) := by
  refine Fn.of free_shForV fun h => ?_
  refine enter (by kernel_rfl) e29 (by kernel_rfl) rfl fun hok => ?_
  simp only [r29, initEnv_2]
  (try (simp (disch := first | omega | (simp <;> omega) | fail) only [push_cast, ↓reduceIte, Nat.reduceEqDiff, Nat.reduceAdd, Nat.reduceMul, Nat.reduceSub, Nat.reduceLT, Int.reduceToNat]))
  refine (c_spec_stGood s).call ?_
  unfold shForV
  cases h1 : okSh s
  · (try (simp (disch := first | omega | (simp <;> omega) | fail) only [push_cast, ↓reduceIte, Nat.reduceEqDiff, Nat.reduceAdd, Nat.reduceMul, Nat.reduceSub, Nat.reduceLT, Int.reduceToNat]))
    all_goals (try rfl)
  (try (simp (disch := first | omega | (simp <;> omega) | fail) only [push_cast, ↓reduceIte, Nat.reduceEqDiff, Nat.reduceAdd, Nat.reduceMul, Nat.reduceSub, Nat.reduceLT, Int.reduceToNat]))
  refine (c_spec_biKeys keys).call ?_
  cases h2 : okKeys (lS keys)
  · (try (simp (disch := first | omega | (simp <;> omega) | fail) only [push_cast, ↓reduceIte, Nat.reduceEqDiff, Nat.reduceAdd, Nat.reduceMul, Nat.reduceSub, Nat.reduceLT, Int.reduceToNat]))
    all_goals (try rfl)
  have hp := okSh_parts h1
  have hkl := okKeys_len h2
  have hok1 := h1
  simp only [okSh, Bool.and_eq_true, decide_eq_true_eq] at hok1
  obtain ⟨_, _, hall, _⟩ := hok1
  (try (simp (disch := first | omega | (simp <;> omega) | fail) only [push_cast, ↓reduceIte, Nat.reduceEqDiff, Nat.reduceAdd, Nat.reduceMul, Nat.reduceSub, Nat.reduceLT, Int.reduceToNat]))
  refine (c_spec_stSplit s.seed keys (lP s.parts).length (by omega) (by omega) (by omega) (by omega) hkl).call ?_
  unfold eSS
  have hspl := splitV_len (seed := s.seed) (keys := lS keys) (n := (lP s.parts).length)
  (try (simp (disch := first | omega | (simp <;> omega) | fail) only [push_cast, ↓reduceIte, Nat.reduceEqDiff, Nat.reduceAdd, Nat.reduceMul, Nat.reduceSub, Nat.reduceLT, Int.reduceToNat, hspl]))
  refine T_for (lP s.parts).length (fun i e h' => Pins e [(2, .adr h.length 0), (22, .ro 1 ((splitV s.seed (lS keys) (lP s.parts).length).map nS) (lP s.parts).length), (23, .int .i64 (lP s.parts).length), (24, .int .i64 i)] ∧ (h.length < h'.length ∧ H.cells h' h.length = some [.int .i64 s.seed, ePS s.parts, eI s.offs]) ∧ ((List.range i).all fun i => fitsV ((lP s.parts).getD i default) (shardL s.seed (lS keys) (lP s.parts).length i)) = true) ?_ ?_
  · (try (simp (disch := first | omega | (simp <;> omega) | fail) only [push_cast, ↓reduceIte, Nat.reduceEqDiff, Nat.reduceAdd, Nat.reduceMul, Nat.reduceSub, Nat.reduceLT, Int.reduceToNat]))
    all_goals (try simp)
  rintro i e h' hi ⟨hp, ⟨hlt, hbox⟩, ha⟩
  refine T_pins hp fun e => ?_
  (try (simp (disch := first | omega | (simp <;> omega) | fail) only [push_cast, ↓reduceIte, Nat.reduceEqDiff, Nat.reduceAdd, Nat.reduceMul, Nat.reduceSub, Nat.reduceLT, Int.reduceToNat, hbox]))
  first | refine goC_split (fun hc => ?_) (fun hc => ?_) | refine cnd_split (fun hc => ?_) (fun hc => ?_)
  · (try (simp only [decide_eq_true_eq, decide_eq_false_iff_not, Bool.not_eq_true', Bool.not_eq_false', Bool.and_eq_true, Bool.or_eq_true, Int.not_lt, Int.not_le] at hc)); (try (simp (disch := first | omega | (simp <;> omega) | fail) only [push_cast, ↓reduceIte, Nat.reduceEqDiff, Nat.reduceAdd, Nat.reduceMul, Nat.reduceSub, Nat.reduceLT, Int.reduceToNat]))
    have hi2 : i < (lP s.parts).length := by omega
    have hgs := get_splitV (seed := s.seed) (keys := lS keys) hi2
    have hk : okPd ((lP s.parts).getD i default) = true := List.all_eq_true.1 hall _ (by simp [hi2])
    (try (simp (disch := first | omega | (simp <;> omega) | fail) only [push_cast, ↓reduceIte, Nat.reduceEqDiff, Nat.reduceAdd, Nat.reduceMul, Nat.reduceSub, Nat.reduceLT, Int.reduceToNat, hbox, hgs]))
    unfold nS
    refine (c_spec_pfFits ((lP s.parts).getD i default) _ hk (by rw [lS_nS]; exact Nat.le_trans shardL_len hkl)).call ?_
    rw [lS_nS]
    have hn := all_range (f := fun i => fitsV ((lP s.parts).getD i default) (shardL s.seed (lS keys) (lP s.parts).length i)) (i := i)
    cases hf : fitsV ((lP s.parts).getD i default) (shardL s.seed (lS keys) (lP s.parts).length i)
    · rw [all_range_no hi2 hf]
      (try (simp (disch := first | omega | (simp <;> omega) | fail) only [push_cast, ↓reduceIte, Nat.reduceEqDiff, Nat.reduceAdd, Nat.reduceMul, Nat.reduceSub, Nat.reduceLT, Int.reduceToNat, hbox]))
      all_goals (try rfl)
    · (try (simp (disch := first | omega | (simp <;> omega) | fail) only [push_cast, ↓reduceIte, Nat.reduceEqDiff, Nat.reduceAdd, Nat.reduceMul, Nat.reduceSub, Nat.reduceLT, Int.reduceToNat, hbox]))
      rw [hn, ha, hf]
      all_goals (try simp)
  · (try (simp only [decide_eq_true_eq, decide_eq_false_iff_not, Bool.not_eq_true', Bool.not_eq_false', Bool.and_eq_true, Bool.or_eq_true, Int.not_lt, Int.not_le] at hc)); (try (simp (disch := first | omega | (simp <;> omega) | fail) only [push_cast, ↓reduceIte, Nat.reduceEqDiff, Nat.reduceAdd, Nat.reduceMul, Nat.reduceSub, Nat.reduceLT, Int.reduceToNat]))
    have : i = (lP s.parts).length := by omega
    subst this
    rw [ha]
    (try (simp (disch := first | omega | (simp <;> omega) | fail) only [push_cast, ↓reduceIte, Nat.reduceEqDiff, Nat.reduceAdd, Nat.reduceMul, Nat.reduceSub, Nat.reduceLT, Int.reduceToNat]))
    all_goals (try rfl)

theorem c_impl_in (n lo hi : Int) : Fn Try.prog 52 [.int .i64 n, .int .i64 lo, .int .i64 hi] (· = .bool (decide (lo ≤ n) && decide (n ≤ hi))) := by
  refine Fn.of free_bool fun h => ?_
  refine enter (by kernel_rfl) e52 (by kernel_rfl) rfl fun hok => ?_
  simp only [r52, initEnv_3]
  (try (simp (disch := first | omega | (simp <;> omega) | fail) only [push_cast, ↓reduceIte, Nat.reduceEqDiff, Nat.reduceAdd, Nat.reduceMul, Nat.reduceSub, Nat.reduceLT, Int.reduceToNat]))
  first | refine goC_split (fun hc => ?_) (fun hc => ?_) | refine cnd_split (fun hc => ?_) (fun hc => ?_)
  · (try (simp only [decide_eq_true_eq, decide_eq_false_iff_not, Bool.not_eq_true', Bool.not_eq_false', Bool.and_eq_true, Bool.or_eq_true, Int.not_lt, Int.not_le] at hc)); (try (simp (disch := first | omega | (simp <;> omega) | fail) only [push_cast, ↓reduceIte, Nat.reduceEqDiff, Nat.reduceAdd, Nat.reduceMul, Nat.reduceSub, Nat.reduceLT, Int.reduceToNat]))
    first | refine goC_split (fun hd => ?_) (fun hd => ?_) | refine cnd_split (fun hd => ?_) (fun hd => ?_)
    · (try (simp only [decide_eq_true_eq, decide_eq_false_iff_not, Bool.not_eq_true', Bool.not_eq_false', Bool.and_eq_true, Bool.or_eq_true, Int.not_lt, Int.not_le] at hd)); (try (simp (disch := first | omega | (simp <;> omega) | fail) only [push_cast, ↓reduceIte, Nat.reduceEqDiff, Nat.reduceAdd, Nat.reduceMul, Nat.reduceSub, Nat.reduceLT, Int.reduceToNat]))
    · (try (simp only [decide_eq_true_eq, decide_eq_false_iff_not, Bool.not_eq_true', Bool.not_eq_false', Bool.and_eq_true, Bool.or_eq_true, Int.not_lt, Int.not_le] at hd)); (try (simp (disch := first | omega | (simp <;> omega) | fail) only [push_cast, ↓reduceIte, Nat.reduceEqDiff, Nat.reduceAdd, Nat.reduceMul, Nat.reduceSub, Nat.reduceLT, Int.reduceToNat]))
  · (try (simp only [decide_eq_true_eq, decide_eq_false_iff_not, Bool.not_eq_true', Bool.not_eq_false', Bool.and_eq_true, Bool.or_eq_true, Int.not_lt, Int.not_le] at hc)); (try (simp (disch := first | omega | (simp <;> omega) | fail) only [push_cast, ↓reduceIte, Nat.reduceEqDiff, Nat.reduceAdd, Nat.reduceMul, Nat.reduceSub, Nat.reduceLT, Int.reduceToNat]))
    try simp

theorem c_impl_isSeed (n : Int) : Fn Try.prog 50 [.int .i64 n] (· = .bool (decide (0 ≤ n) && decide (n ≤ 9999))) := by
  refine Fn.of free_bool fun h => ?_
  refine enter (by kernel_rfl) e50 (by kernel_rfl) rfl fun hok => ?_
  simp only [r50, initEnv_1]
  (try (simp (disch := first | omega | (simp <;> omega) | fail) only [push_cast, ↓reduceIte, Nat.reduceEqDiff, Nat.reduceAdd, Nat.reduceMul, Nat.reduceSub, Nat.reduceLT, Int.reduceToNat]))
  refine (c_impl_in _ _ _).call ?_
  (try (simp (disch := first | omega | (simp <;> omega) | fail) only [push_cast, ↓reduceIte, Nat.reduceEqDiff, Nat.reduceAdd, Nat.reduceMul, Nat.reduceSub, Nat.reduceLT, Int.reduceToNat]))

/-- Where the first is that is not so, or -1. -/
def firstIx (f : Int → Bool) (l : List Int) : Int := match l.findIdx? f with | some i => i | none => -1
theorem firstIx_all {f : Int → Bool} {l : List Int} : (decide (0 ≤ firstIx f l)) = !(l.all fun m => !f m) := by
  unfold firstIx
  cases h : l.findIdx? f with
  | none =>
    rw [List.findIdx?_eq_none_iff] at h
    have : (l.all fun m => !f m) = true := by
      rw [List.all_eq_true]
      intro x hx
      rw [h x hx]
      rfl
    rw [this]
    rfl
  | some i =>
    have : (l.all fun m => !f m) = false := by
      rw [List.findIdx?_eq_some_iff_getElem] at h
      obtain ⟨hi, hf, _⟩ := h
      rw [List.all_eq_false]
      exact ⟨l[i], List.getElem_mem hi, by simp [hf]⟩
    rw [this]
    simp

theorem c_slices_IndexFunc_int (a : Option (List Int)) (f : Nat) (g : Int → Bool) (hg : ∀ m, Fn Try.prog f [.int .i64 m] (· = .bool (g m))) : Fn Try.prog 126 [eI a, .fn f []] (fun x => ∃ n : Int, x = .int .i64 n ∧ decide (0 ≤ n) = !((lI a).all fun m => !g m)) := by
  intro h
  refine Call.gc (Call.mono (?_ : Call Try.prog 126 [eI a, .fn f []] h Nowhere (fun x _ => ∃ n : Int, x = .int .i64 n ∧ decide (0 ≤ n) = !((lI a).all fun m => !g m))) (fun x _ ⟨n, hn, hx⟩ => ⟨⟨n, hn, hx⟩, by rw [hn]; exact free_int⟩) (fun _ _ h => h))
  refine enter (by kernel_rfl) e126 (by kernel_rfl) rfl fun hok => ?_
  simp only [r126, initEnv_2]
  have hlen := ok_eI (okV_0 hok)
  (try (simp (disch := first | omega | (simp <;> omega) | fail) only [push_cast, ↓reduceIte, Nat.reduceEqDiff, Nat.reduceAdd, Nat.reduceMul, Nat.reduceSub, Nat.reduceLT, Int.reduceToNat]))
  refine T_for (lI a).length (fun i e h' => Pins e [(0, eI a), (1, .fn f []), (7, .int .i64 (lI a).length), (8, .int .i64 i)] ∧ h' = h ∧ ((lI a).take i).all (fun m => !g m) = true) ?_ ?_
  · (try (simp (disch := first | omega | (simp <;> omega) | fail) only [push_cast, ↓reduceIte, Nat.reduceEqDiff, Nat.reduceAdd, Nat.reduceMul, Nat.reduceSub, Nat.reduceLT, Int.reduceToNat]))
    all_goals (try simp)
  rintro i e h' hi ⟨hp, rfl, ha⟩
  refine T_pins hp fun e => ?_
  (try (simp (disch := first | omega | (simp <;> omega) | fail) only [push_cast, ↓reduceIte, Nat.reduceEqDiff, Nat.reduceAdd, Nat.reduceMul, Nat.reduceSub, Nat.reduceLT, Int.reduceToNat]))
  first | refine goC_split (fun hc => ?_) (fun hc => ?_) | refine cnd_split (fun hc => ?_) (fun hc => ?_)
  · (try (simp only [decide_eq_true_eq, decide_eq_false_iff_not, Bool.not_eq_true', Bool.not_eq_false', Bool.and_eq_true, Bool.or_eq_true, Int.not_lt, Int.not_le] at hc)); (try (simp (disch := first | omega | (simp <;> omega) | fail) only [push_cast, ↓reduceIte, Nat.reduceEqDiff, Nat.reduceAdd, Nat.reduceMul, Nat.reduceSub, Nat.reduceLT, Int.reduceToNat]))
    have hi2 : i < (lI a).length := by omega
    (try (simp (disch := first | omega | (simp <;> omega) | fail) only [push_cast, ↓reduceIte, Nat.reduceEqDiff, Nat.reduceAdd, Nat.reduceMul, Nat.reduceSub, Nat.reduceLT, Int.reduceToNat]))
    refine (hg _).call ?_
    have hn : ((lI a).take (i + 1)).all (fun m => !g m) = !(g ((lI a).getD i 0)) := by
      rw [List.take_add_one, List.all_append, ha]
      simp [hi2]
    cases hk : g ((lI a).getD i 0)
    · (try (simp (disch := first | omega | (simp <;> omega) | fail) only [push_cast, ↓reduceIte, Nat.reduceEqDiff, Nat.reduceAdd, Nat.reduceMul, Nat.reduceSub, Nat.reduceLT, Int.reduceToNat]))
      rw [hn, hk]
      rfl
    · (try (simp (disch := first | omega | (simp <;> omega) | fail) only [push_cast, ↓reduceIte, Nat.reduceEqDiff, Nat.reduceAdd, Nat.reduceMul, Nat.reduceSub, Nat.reduceLT, Int.reduceToNat]))
      refine ⟨_, rfl, ?_⟩
      have : ((lI a).all fun m => !g m) = false := by
        rw [List.all_eq_false]
        exact ⟨(lI a).getD i 0, by simp [hi2], by rw [hk]; simp⟩
      rw [this]
      simp
  · (try (simp only [decide_eq_true_eq, decide_eq_false_iff_not, Bool.not_eq_true', Bool.not_eq_false', Bool.and_eq_true, Bool.or_eq_true, Int.not_lt, Int.not_le] at hc)); (try (simp (disch := first | omega | (simp <;> omega) | fail) only [push_cast, ↓reduceIte, Nat.reduceEqDiff, Nat.reduceAdd, Nat.reduceMul, Nat.reduceSub, Nat.reduceLT, Int.reduceToNat]))
    have : (lI a).take i = lI a := List.take_of_length_le (by omega)
    rw [this] at ha
    refine ⟨_, rfl, ?_⟩
    rw [ha]
    rfl

theorem c_slices_ContainsFunc_int (a : Option (List Int)) (f : Nat) (g : Int → Bool) (hg : ∀ m, Fn Try.prog f [.int .i64 m] (· = .bool (g m))) : Fn Try.prog 94 [eI a, .fn f []] (· = .bool (!((lI a).all fun m => !g m))) := by
  refine Fn.of free_bool fun h => ?_
  refine enter (by kernel_rfl) e94 (by kernel_rfl) rfl fun hok => ?_
  simp only [r94, initEnv_2]
  (try (simp (disch := first | omega | (simp <;> omega) | fail) only [push_cast, ↓reduceIte, Nat.reduceEqDiff, Nat.reduceAdd, Nat.reduceMul, Nat.reduceSub, Nat.reduceLT, Int.reduceToNat]))
  refine (c_slices_IndexFunc_int a f g hg).use ?_
  rintro x ⟨n, rfl, hn⟩
  rw [← hn]
  (try (simp (disch := first | omega | (simp <;> omega) | fail) only [push_cast, ↓reduceIte, Nat.reduceEqDiff, Nat.reduceAdd, Nat.reduceMul, Nat.reduceSub, Nat.reduceLT, Int.reduceToNat]))
  (first | refine goC_split (fun hc => ?_) (fun hc => ?_) | refine cnd_split (fun hc => ?_) (fun hc => ?_)) <;> ((try (simp (disch := first | omega | (simp <;> omega) | fail) only [push_cast, ↓reduceIte, Nat.reduceEqDiff, Nat.reduceAdd, Nat.reduceMul, Nat.reduceSub, Nat.reduceLT, Int.reduceToNat]))) <;> (try rw [hc])

theorem c_impl_segmentOk (n : Int) : Fn Try.prog 88 [.int .i64 n] (· = .bool (decide (1 ≤ n) && decide (n ≤ 24))) := by
  refine Fn.of free_bool fun h => ?_
  refine enter (by kernel_rfl) e88 (by kernel_rfl) rfl fun hok => ?_
  simp only [r88, initEnv_1]
  (try (simp (disch := first | omega | (simp <;> omega) | fail) only [push_cast, ↓reduceIte, Nat.reduceEqDiff, Nat.reduceAdd, Nat.reduceMul, Nat.reduceSub, Nat.reduceLT, Int.reduceToNat]))
  refine (c_impl_in _ _ _).call ?_
  (try (simp (disch := first | omega | (simp <;> omega) | fail) only [push_cast, ↓reduceIte, Nat.reduceEqDiff, Nat.reduceAdd, Nat.reduceMul, Nat.reduceSub, Nat.reduceLT, Int.reduceToNat]))

theorem c_impl_IsPeeled_1 (m : Int) : Fn Try.prog 95 [.int .i64 m] (· = .bool (!(decide (0 ≤ m) && decide (m ≤ 3)))) := by
  refine Fn.of free_bool fun h => ?_
  refine enter (by kernel_rfl) e95 (by kernel_rfl) rfl fun hok => ?_
  simp only [r95, initEnv_1]
  (try (simp (disch := first | omega | (simp <;> omega) | fail) only [push_cast, ↓reduceIte, Nat.reduceEqDiff, Nat.reduceAdd, Nat.reduceMul, Nat.reduceSub, Nat.reduceLT, Int.reduceToNat]))
  refine (c_impl_in _ _ _).call ?_
  (try (simp (disch := first | omega | (simp <;> omega) | fail) only [push_cast, ↓reduceIte, Nat.reduceEqDiff, Nat.reduceAdd, Nat.reduceMul, Nat.reduceSub, Nat.reduceLT, Int.reduceToNat]))

theorem c_impl_IsPeeled (p : Pd) : Fn Try.prog 61 [eP p] (· = .bool (okPd p)) := by
  refine Fn.of free_bool fun h => ?_
  refine enter (by kernel_rfl) e61 (by kernel_rfl) rfl fun hok => ?_
  simp only [r61, initEnv_1]
  (try (simp (disch := first | omega | (simp <;> omega) | fail) only [push_cast, ↓reduceIte, Nat.reduceEqDiff, Nat.reduceAdd, Nat.reduceMul, Nat.reduceSub, Nat.reduceLT, Int.reduceToNat]))
  refine (c_slices_ContainsFunc_int p.marks _ _ c_impl_IsPeeled_1).call ?_
  have hm : ((lI p.marks).all fun m => !!(decide (0 ≤ m) && decide (m ≤ 3))) = okMarks (lI p.marks) := by
    unfold okMarks
    simp only [Bool.not_not]
  rw [hm]
  unfold okPd
  cases h0 : okMarks (lI p.marks)
  · (try (simp (disch := first | omega | (simp <;> omega) | fail) only [push_cast, ↓reduceIte, Nat.reduceEqDiff, Nat.reduceAdd, Nat.reduceMul, Nat.reduceSub, Nat.reduceLT, Int.reduceToNat]))
    all_goals (try simp)
  (try (simp (disch := first | omega | (simp <;> omega) | fail) only [push_cast, ↓reduceIte, Nat.reduceEqDiff, Nat.reduceAdd, Nat.reduceMul, Nat.reduceSub, Nat.reduceLT, Int.reduceToNat]))
  refine (c_impl_isSeed _).call ?_
  cases h1 : (decide (0 ≤ p.seed) && decide (p.seed ≤ 9999))
  · (try (simp (disch := first | omega | (simp <;> omega) | fail) only [push_cast, ↓reduceIte, Nat.reduceEqDiff, Nat.reduceAdd, Nat.reduceMul, Nat.reduceSub, Nat.reduceLT, Int.reduceToNat]))
  (try (simp (disch := first | omega | (simp <;> omega) | fail) only [push_cast, ↓reduceIte, Nat.reduceEqDiff, Nat.reduceAdd, Nat.reduceMul, Nat.reduceSub, Nat.reduceLT, Int.reduceToNat]))
  refine (c_impl_segmentOk _).call ?_
  cases h2 : (decide (1 ≤ p.seg) && decide (p.seg ≤ 24))
  · (try (simp (disch := first | omega | (simp <;> omega) | fail) only [push_cast, ↓reduceIte, Nat.reduceEqDiff, Nat.reduceAdd, Nat.reduceMul, Nat.reduceSub, Nat.reduceLT, Int.reduceToNat]))
  have h3 : 1 ≤ p.seg ∧ p.seg ≤ 24 := by simpa using h2
  (try (simp (disch := first | omega | (simp <;> omega) | fail) only [push_cast, ↓reduceIte, Nat.reduceEqDiff, Nat.reduceAdd, Nat.reduceMul, Nat.reduceSub, Nat.reduceLT, Int.reduceToNat]))
  (first | refine goC_split (fun hc => ?_) (fun hc => ?_) | refine cnd_split (fun hc => ?_) (fun hc => ?_)) <;> ((try (simp (disch := first | omega | (simp <;> omega) | fail) only [push_cast, ↓reduceIte, Nat.reduceEqDiff, Nat.reduceAdd, Nat.reduceMul, Nat.reduceSub, Nat.reduceLT, Int.reduceToNat]))) <;> (try rw [hc])

theorem c_impl_Peeled_used (p : Pd) (cs : List AV) (off : Nat) (h2 : cs[off + 2]? = some (eI p.marks)) (n : Nat) (hn : n ≤ (lI p.marks).length) (hlen : (lI p.marks).length ≤ 9223372036854775807) : Fn Try.prog 62 [.rad cs off, .int .i64 n] (· = .int .i64 (rank (lI p.marks) n)) := by
  refine Fn.of free_int fun h => ?_
  refine enter (by kernel_rfl) e62 (by kernel_rfl) rfl fun hok => ?_
  simp only [r62, initEnv_2]
  have hlt : ((lI p.marks).take n).length = n := by simp; omega
  (try (simp (disch := first | omega | (simp <;> omega) | fail) only [push_cast, ↓reduceIte, Nat.reduceEqDiff, Nat.reduceAdd, Nat.reduceMul, Nat.reduceSub, Nat.reduceLT, Int.reduceToNat, h2, hlt]))
  refine T_for n (fun i e h'' => Pins e [(5, .int .i64 (rank (lI p.marks) i)), (13, eI (tkeI n p.marks)), (14, .int .i64 n), (15, .int .i64 i)]) ?_ ?_
  · (try (simp (disch := first | omega | (simp <;> omega) | fail) only [push_cast, ↓reduceIte, Nat.reduceEqDiff, Nat.reduceAdd, Nat.reduceMul, Nat.reduceSub, Nat.reduceLT, Int.reduceToNat]))
    all_goals (try simp [rank_0])
  rintro i e h'' hi hp
  refine T_pins hp fun e => ?_
  have hr := rank_le (l := lI p.marks) (n := i)
  (try (simp (disch := first | omega | (simp <;> omega) | fail) only [push_cast, ↓reduceIte, Nat.reduceEqDiff, Nat.reduceAdd, Nat.reduceMul, Nat.reduceSub, Nat.reduceLT, Int.reduceToNat]))
  first | refine goC_split (fun hc => ?_) (fun hc => ?_) | refine cnd_split (fun hc => ?_) (fun hc => ?_)
  · (try (simp only [decide_eq_true_eq, decide_eq_false_iff_not, Bool.not_eq_true', Bool.not_eq_false', Bool.and_eq_true, Bool.or_eq_true, Int.not_lt, Int.not_le] at hc)); (try (simp (disch := first | omega | (simp <;> omega) | fail) only [push_cast, ↓reduceIte, Nat.reduceEqDiff, Nat.reduceAdd, Nat.reduceMul, Nat.reduceSub, Nat.reduceLT, Int.reduceToNat]))
    have hi2 : i < (lI p.marks).length := by omega
    have hlt : ((lI p.marks).take n).length = n := by simp; omega
    have hrs := rank_succ hi2
    have hg : ((lI p.marks).take n).getD i 0 = (lI p.marks).getD i 0 := by simp [List.getElem?_take, show i < n by omega]
    (try (simp (disch := first | omega | (simp <;> omega) | fail) only [push_cast, ↓reduceIte, Nat.reduceEqDiff, Nat.reduceAdd, Nat.reduceMul, Nat.reduceSub, Nat.reduceLT, Int.reduceToNat, hlt, hg]))
    first | refine goC_split (fun hd => ?_) (fun hd => ?_) | refine cnd_split (fun hd => ?_) (fun hd => ?_)
    · (try (simp only [decide_eq_true_eq, decide_eq_false_iff_not, Bool.not_eq_true', Bool.not_eq_false', Bool.and_eq_true, Bool.or_eq_true, Int.not_lt, Int.not_le] at hd)); (try (simp (disch := first | omega | (simp <;> omega) | fail) only [push_cast, ↓reduceIte, Nat.reduceEqDiff, Nat.reduceAdd, Nat.reduceMul, Nat.reduceSub, Nat.reduceLT, Int.reduceToNat]))
      rw [if_neg hd] at hrs
      rw [hrs]
      (try (simp (disch := first | omega | (simp <;> omega) | fail) only [push_cast, ↓reduceIte, Nat.reduceEqDiff, Nat.reduceAdd, Nat.reduceMul, Nat.reduceSub, Nat.reduceLT, Int.reduceToNat]))
    · (try (simp only [decide_eq_true_eq, decide_eq_false_iff_not, Bool.not_eq_true', Bool.not_eq_false', Bool.and_eq_true, Bool.or_eq_true, Int.not_lt, Int.not_le] at hd)); (try (simp (disch := first | omega | (simp <;> omega) | fail) only [push_cast, ↓reduceIte, Nat.reduceEqDiff, Nat.reduceAdd, Nat.reduceMul, Nat.reduceSub, Nat.reduceLT, Int.reduceToNat]))
      rw [if_pos hd] at hrs
      rw [hrs]
      (try (simp (disch := first | omega | (simp <;> omega) | fail) only [push_cast, ↓reduceIte, Nat.reduceEqDiff, Nat.reduceAdd, Nat.reduceMul, Nat.reduceSub, Nat.reduceLT, Int.reduceToNat]))
  · (try (simp only [decide_eq_true_eq, decide_eq_false_iff_not, Bool.not_eq_true', Bool.not_eq_false', Bool.and_eq_true, Bool.or_eq_true, Int.not_lt, Int.not_le] at hc)); (try (simp (disch := first | omega | (simp <;> omega) | fail) only [push_cast, ↓reduceIte, Nat.reduceEqDiff, Nat.reduceAdd, Nat.reduceMul, Nat.reduceSub, Nat.reduceLT, Int.reduceToNat]))
    have : i = n := by omega
    subst this
    rfl

theorem c_impl_IsSharded (s : Sh_) : Fn Try.prog 23 [eSh s] (· = .bool (okSh s)) := by
  refine Fn.of free_bool fun h => ?_
  refine enter (by kernel_rfl) e23 (by kernel_rfl) rfl fun hok => ?_
  simp only [r23, initEnv_1]
  have hl1 := ok_ePS ((okV_0 hok).agg (ePS s.parts) (by simp))
  have hl2 := ok_eI ((okV_0 hok).agg (eI s.offs) (by simp))
  (try (simp (disch := first | omega | (simp <;> omega) | fail) only [push_cast, ↓reduceIte, Nat.reduceEqDiff, Nat.reduceAdd, Nat.reduceMul, Nat.reduceSub, Nat.reduceLT, Int.reduceToNat]))
  unfold okSh
  refine (c_impl_isSeed _).call ?_
  cases h1 : (decide (0 ≤ s.seed) && decide (s.seed ≤ 9999))
  · (try (simp (disch := first | omega | (simp <;> omega) | fail) only [push_cast, ↓reduceIte, Nat.reduceEqDiff, Nat.reduceAdd, Nat.reduceMul, Nat.reduceSub, Nat.reduceLT, Int.reduceToNat]))
  (try (simp (disch := first | omega | (simp <;> omega) | fail) only [push_cast, ↓reduceIte, Nat.reduceEqDiff, Nat.reduceAdd, Nat.reduceMul, Nat.reduceSub, Nat.reduceLT, Int.reduceToNat]))
  refine (c_impl_in _ _ _).call ?_
  cases h2 : (decide (1 ≤ ((lP s.parts).length : Int)) && decide (((lP s.parts).length : Int) ≤ 8))
  · (try (simp (disch := first | omega | (simp <;> omega) | fail) only [push_cast, ↓reduceIte, Nat.reduceEqDiff, Nat.reduceAdd, Nat.reduceMul, Nat.reduceSub, Nat.reduceLT, Int.reduceToNat]))
  have h3 : 1 ≤ (lP s.parts).length ∧ (lP s.parts).length ≤ 8 := by
    simp only [Bool.and_eq_true, decide_eq_true_eq] at h2
    omega
  (try (simp (disch := first | omega | (simp <;> omega) | fail) only [push_cast, ↓reduceIte, Nat.reduceEqDiff, Nat.reduceAdd, Nat.reduceMul, Nat.reduceSub, Nat.reduceLT, Int.reduceToNat]))
  first | refine goC_split (fun hc => ?_) (fun hc => ?_) | refine cnd_split (fun hc => ?_) (fun hc => ?_)
  · (try (simp only [decide_eq_true_eq, decide_eq_false_iff_not, Bool.not_eq_true', Bool.not_eq_false', Bool.and_eq_true, Bool.or_eq_true, Int.not_lt, Int.not_le] at hc)); (try (simp (disch := first | omega | (simp <;> omega) | fail) only [push_cast, ↓reduceIte, Nat.reduceEqDiff, Nat.reduceAdd, Nat.reduceMul, Nat.reduceSub, Nat.reduceLT, Int.reduceToNat]))
    have : decide (lI s.offs = offsL (lP s.parts) (lP s.parts).length) = false := by
      rw [decide_eq_false_iff_not]
      intro he
      rw [he, offsL_len] at hc
      exact hc rfl
    rw [this]
    all_goals (try simp)
  have hlen : (lI s.offs).length = (lP s.parts).length := by (try (simp only [decide_eq_true_eq, decide_eq_false_iff_not, Bool.not_eq_true', Bool.not_eq_false', Bool.and_eq_true, Bool.or_eq_true, Int.not_lt, Int.not_le] at hc)); (try (simp (disch := first | omega | (simp <;> omega) | fail) only [push_cast, ↓reduceIte, Nat.reduceEqDiff, Nat.reduceAdd, Nat.reduceMul, Nat.reduceSub, Nat.reduceLT, Int.reduceToNat])); omega
  (try (simp (disch := first | omega | (simp <;> omega) | fail) only [push_cast, ↓reduceIte, Nat.reduceEqDiff, Nat.reduceAdd, Nat.reduceMul, Nat.reduceSub, Nat.reduceLT, Int.reduceToNat]))
  refine T_for (lP s.parts).length (fun i e h' => Pins e [(1, .adr h.length 0), (3, .int .i64 (offAt (lP s.parts) i)), (27, ePS s.parts), (28, .int .i64 (lP s.parts).length), (29, .int .i64 i)] ∧ (h.length < h'.length ∧ H.cells h' h.length = some [.int .i64 s.seed, ePS s.parts, eI s.offs]) ∧ (((lP s.parts).take i).all okPd = true ∧ (lI s.offs).take i = offsL (lP s.parts) i)) ?_ ?_
  · (try (simp (disch := first | omega | (simp <;> omega) | fail) only [push_cast, ↓reduceIte, Nat.reduceEqDiff, Nat.reduceAdd, Nat.reduceMul, Nat.reduceSub, Nat.reduceLT, Int.reduceToNat, offAt_0]))
    all_goals (try simp [offsL])
  rintro i e h' hi ⟨hp, ⟨hlt, hbox⟩, ha, hb⟩
  refine T_pins hp fun e => ?_
  (try (simp (disch := first | omega | (simp <;> omega) | fail) only [push_cast, ↓reduceIte, Nat.reduceEqDiff, Nat.reduceAdd, Nat.reduceMul, Nat.reduceSub, Nat.reduceLT, Int.reduceToNat, hbox]))
  first | refine goC_split (fun hc => ?_) (fun hc => ?_) | refine cnd_split (fun hc => ?_) (fun hc => ?_)
  · (try (simp only [decide_eq_true_eq, decide_eq_false_iff_not, Bool.not_eq_true', Bool.not_eq_false', Bool.and_eq_true, Bool.or_eq_true, Int.not_lt, Int.not_le] at hc)); (try (simp (disch := first | omega | (simp <;> omega) | fail) only [push_cast, ↓reduceIte, Nat.reduceEqDiff, Nat.reduceAdd, Nat.reduceMul, Nat.reduceSub, Nat.reduceLT, Int.reduceToNat]))
    have hi2 : i < (lP s.parts).length := by omega
    (try (simp (disch := first | omega | (simp <;> omega) | fail) only [push_cast, ↓reduceIte, Nat.reduceEqDiff, Nat.reduceAdd, Nat.reduceMul, Nat.reduceSub, Nat.reduceLT, Int.reduceToNat, hbox]))
    refine (c_impl_IsPeeled ((lP s.parts).getD i default)).call ?_
    have hn : ((lP s.parts).take (i + 1)).all okPd = okPd ((lP s.parts).getD i default) := by
      rw [List.take_add_one, List.all_append, ha]
      simp [hi2]
    cases hk : okPd ((lP s.parts).getD i default)
    · (try (simp (disch := first | omega | (simp <;> omega) | fail) only [push_cast, ↓reduceIte, Nat.reduceEqDiff, Nat.reduceAdd, Nat.reduceMul, Nat.reduceSub, Nat.reduceLT, Int.reduceToNat, hbox]))
      have : (lP s.parts).all okPd = false := by
        rw [List.all_eq_false]
        exact ⟨(lP s.parts).getD i default, by simp [hi2], by rw [hk]; simp⟩
      rw [this]
      rfl
    · (try (simp (disch := first | omega | (simp <;> omega) | fail) only [push_cast, ↓reduceIte, Nat.reduceEqDiff, Nat.reduceAdd, Nat.reduceMul, Nat.reduceSub, Nat.reduceLT, Int.reduceToNat, hbox]))
      first | refine goC_split (fun hc => ?_) (fun hc => ?_) | refine cnd_split (fun hc => ?_) (fun hc => ?_)
      · (try (simp only [decide_eq_true_eq, decide_eq_false_iff_not, Bool.not_eq_true', Bool.not_eq_false', Bool.and_eq_true, Bool.or_eq_true, Int.not_lt, Int.not_le] at hc)); (try (simp (disch := first | omega | (simp <;> omega) | fail) only [push_cast, ↓reduceIte, Nat.reduceEqDiff, Nat.reduceAdd, Nat.reduceMul, Nat.reduceSub, Nat.reduceLT, Int.reduceToNat]))
        have : decide (lI s.offs = offsL (lP s.parts) (lP s.parts).length) = false := by
          rw [decide_eq_false_iff_not]
          intro he
          apply hc
          rw [he]
          simp [offsL, hi2]
        rw [this]
        all_goals (try simp)
      · (try (simp only [decide_eq_true_eq, decide_eq_false_iff_not, Bool.not_eq_true', Bool.not_eq_false', Bool.and_eq_true, Bool.or_eq_true, Int.not_lt, Int.not_le] at hc)); (try (simp (disch := first | omega | (simp <;> omega) | fail) only [push_cast, ↓reduceIte, Nat.reduceEqDiff, Nat.reduceAdd, Nat.reduceMul, Nat.reduceSub, Nat.reduceLT, Int.reduceToNat]))
        have hm2 := okPd_len hk
        have hu := rank_le (l := lI ((lP s.parts).getD i default).marks) (n := (lI ((lP s.parts).getD i default).marks).length)
        have hof := offAt_ok i hi ha
        have hos := offAt_succ hi2
        unfold usedP at hos
        refine (c_impl_Peeled_used ((lP s.parts).getD i default) (cP ((lP s.parts).getD i default)) 0 rfl _ (Nat.le_refl _) (by omega)).lendL (.adr (by rw [cells_h0]; rfl) free_cP (.free free_int .nil)) own_int ?_
        have ht : (lI s.offs).take (i + 1) = offsL (lP s.parts) (i + 1) := by
          rw [List.take_add_one, offsL_succ, hb, ← hc]
          simp [show i < (lI s.offs).length by omega]
        (try (simp (disch := first | omega | (simp <;> omega) | fail) only [push_cast, ↓reduceIte, Nat.reduceEqDiff, Nat.reduceAdd, Nat.reduceMul, Nat.reduceSub, Nat.reduceLT, Int.reduceToNat, hbox, ht, hn, hk, hos]))
  · (try (simp only [decide_eq_true_eq, decide_eq_false_iff_not, Bool.not_eq_true', Bool.not_eq_false', Bool.and_eq_true, Bool.or_eq_true, Int.not_lt, Int.not_le] at hc)); (try (simp (disch := first | omega | (simp <;> omega) | fail) only [push_cast, ↓reduceIte, Nat.reduceEqDiff, Nat.reduceAdd, Nat.reduceMul, Nat.reduceSub, Nat.reduceLT, Int.reduceToNat]))
    have h5 : (lP s.parts).take i = lP s.parts := List.take_of_length_le (by omega)
    have h6 : i = (lP s.parts).length := by omega
    rw [h5] at ha
    rw [h6, ← hlen, List.take_length, hlen] at hb
    rw [ha, hb]
    all_goals (try simp)

theorem c_impl_IsKey (s : Str) : Fn Try.prog 67 [.str s] (· = .bool (okKey s)) := by
  refine Fn.of free_bool fun h => ?_
  refine enter (by kernel_rfl) e67 (by kernel_rfl) rfl fun hok => ?_
  simp only [r67, initEnv_1]
  have hlen := (okV_0 hok).str
  (try (simp (disch := first | omega | (simp <;> omega) | fail) only [push_cast, ↓reduceIte, Nat.reduceEqDiff, Nat.reduceAdd, Nat.reduceMul, Nat.reduceSub, Nat.reduceLT, Int.reduceToNat]))
  refine T_for s.length (fun i e h' => Pins e [(0, .str s), (5, .int .i64 s.length), (6, .int .i64 i)] ∧ h' = h ∧ (s.take i).all okByte = true) ?_ ?_
  · (try (simp (disch := first | omega | (simp <;> omega) | fail) only [push_cast, ↓reduceIte, Nat.reduceEqDiff, Nat.reduceAdd, Nat.reduceMul, Nat.reduceSub, Nat.reduceLT, Int.reduceToNat]))
    simp
  rintro i e h' hi ⟨hp, rfl, ha⟩
  refine T_pins hp fun e => ?_
  (try (simp (disch := first | omega | (simp <;> omega) | fail) only [push_cast, ↓reduceIte, Nat.reduceEqDiff, Nat.reduceAdd, Nat.reduceMul, Nat.reduceSub, Nat.reduceLT, Int.reduceToNat]))
  first | refine goC_split (fun hc => ?_) (fun hc => ?_) | refine cnd_split (fun hc => ?_) (fun hc => ?_)
  · (try (simp only [decide_eq_true_eq, decide_eq_false_iff_not, Bool.not_eq_true', Bool.not_eq_false', Bool.and_eq_true, Bool.or_eq_true, Int.not_lt, Int.not_le] at hc)); (try (simp (disch := first | omega | (simp <;> omega) | fail) only [push_cast, ↓reduceIte, Nat.reduceEqDiff, Nat.reduceAdd, Nat.reduceMul, Nat.reduceSub, Nat.reduceLT, Int.reduceToNat]))
    have hi : i < s.length := by omega
    have hn : (s.take (i + 1)).all okByte = okByte (s.getD i 0) := by
      rw [List.take_add_one, List.all_append, ha]
      simp [hi]
    have hf : okByte (s.getD i 0) = false → okKey s = false := fun hf => by
      unfold okKey
      rw [Bool.and_eq_false_iff]
      left
      rw [List.all_eq_false]
      refine ⟨s.getD i 0, by simp [hi], by rw [hf]; simp⟩
    (try (simp (disch := first | omega | (simp <;> omega) | fail) only [push_cast, ↓reduceIte, Nat.reduceEqDiff, Nat.reduceAdd, Nat.reduceMul, Nat.reduceSub, Nat.reduceLT, Int.reduceToNat]))
    first | refine goC_split (fun hc => ?_) (fun hc => ?_) | refine cnd_split (fun hc => ?_) (fun hc => ?_)
    · (try (simp only [decide_eq_true_eq, decide_eq_false_iff_not, Bool.not_eq_true', Bool.not_eq_false', Bool.and_eq_true, Bool.or_eq_true, Int.not_lt, Int.not_le] at hc)); (try (simp (disch := first | omega | (simp <;> omega) | fail) only [push_cast, ↓reduceIte, Nat.reduceEqDiff, Nat.reduceAdd, Nat.reduceMul, Nat.reduceSub, Nat.reduceLT, Int.reduceToNat]))
      rw [hf (by unfold okByte; simp only [Bool.and_eq_false_iff, decide_eq_false_iff_not]; omega)]
    · (try (simp only [decide_eq_true_eq, decide_eq_false_iff_not, Bool.not_eq_true', Bool.not_eq_false', Bool.and_eq_true, Bool.or_eq_true, Int.not_lt, Int.not_le] at hc)); (try (simp (disch := first | omega | (simp <;> omega) | fail) only [push_cast, ↓reduceIte, Nat.reduceEqDiff, Nat.reduceAdd, Nat.reduceMul, Nat.reduceSub, Nat.reduceLT, Int.reduceToNat]))
      (try (simp (disch := first | omega | (simp <;> omega) | fail) only [push_cast, ↓reduceIte, Nat.reduceEqDiff, Nat.reduceAdd, Nat.reduceMul, Nat.reduceSub, Nat.reduceLT, Int.reduceToNat]))
      first | refine goC_split (fun hd => ?_) (fun hd => ?_) | refine cnd_split (fun hd => ?_) (fun hd => ?_)
      · (try (simp only [decide_eq_true_eq, decide_eq_false_iff_not, Bool.not_eq_true', Bool.not_eq_false', Bool.and_eq_true, Bool.or_eq_true, Int.not_lt, Int.not_le] at hd)); (try (simp (disch := first | omega | (simp <;> omega) | fail) only [push_cast, ↓reduceIte, Nat.reduceEqDiff, Nat.reduceAdd, Nat.reduceMul, Nat.reduceSub, Nat.reduceLT, Int.reduceToNat]))
        rw [hf (by unfold okByte; simp only [Bool.and_eq_false_iff, decide_eq_false_iff_not]; omega)]
      · (try (simp only [decide_eq_true_eq, decide_eq_false_iff_not, Bool.not_eq_true', Bool.not_eq_false', Bool.and_eq_true, Bool.or_eq_true, Int.not_lt, Int.not_le] at hd)); (try (simp (disch := first | omega | (simp <;> omega) | fail) only [push_cast, ↓reduceIte, Nat.reduceEqDiff, Nat.reduceAdd, Nat.reduceMul, Nat.reduceSub, Nat.reduceLT, Int.reduceToNat]))
        (try (simp (disch := first | omega | (simp <;> omega) | fail) only [push_cast, ↓reduceIte, Nat.reduceEqDiff, Nat.reduceAdd, Nat.reduceMul, Nat.reduceSub, Nat.reduceLT, Int.reduceToNat]))
        rw [hn]
        unfold okByte
        simp only [Bool.and_eq_true, decide_eq_true_eq]
        omega
  · (try (simp only [decide_eq_true_eq, decide_eq_false_iff_not, Bool.not_eq_true', Bool.not_eq_false', Bool.and_eq_true, Bool.or_eq_true, Int.not_lt, Int.not_le] at hc)); (try (simp (disch := first | omega | (simp <;> omega) | fail) only [push_cast, ↓reduceIte, Nat.reduceEqDiff, Nat.reduceAdd, Nat.reduceMul, Nat.reduceSub, Nat.reduceLT, Int.reduceToNat]))
    have he : s.take i = s := List.take_of_length_le (by omega)
    rw [he] at ha
    have hk : okKey s = (decide (1 ≤ (s.length : Int)) && decide ((s.length : Int) ≤ 12)) := by
      unfold okKey
      rw [ha, Bool.true_and]
    rw [hk]
    refine (c_impl_in _ _ _).call ?_
    (try (simp (disch := first | omega | (simp <;> omega) | fail) only [push_cast, ↓reduceIte, Nat.reduceEqDiff, Nat.reduceAdd, Nat.reduceMul, Nat.reduceSub, Nat.reduceLT, Int.reduceToNat]))

theorem c_impl_AreKeys (a : Option (List Str)) : Fn Try.prog 51 [eS a] (· = .bool (okKeys (lS a))) := by
  refine Fn.of free_bool fun h => ?_
  refine enter (by kernel_rfl) e51 (by kernel_rfl) rfl fun hok => ?_
  simp only [r51, initEnv_1]
  have hlen := ok_eS (okV_0 hok)
  (try (simp (disch := first | omega | (simp <;> omega) | fail) only [push_cast, ↓reduceIte, Nat.reduceEqDiff, Nat.reduceAdd, Nat.reduceMul, Nat.reduceSub, Nat.reduceLT, Int.reduceToNat]))
  refine T_for (lS a).length (fun i e h' => Pins e [(0, eS a), (5, eS a), (6, .int .i64 (lS a).length), (7, .int .i64 i)] ∧ h' = h ∧ okKeysFrom (lS a) i = true) ?_ ?_
  · (try (simp (disch := first | omega | (simp <;> omega) | fail) only [push_cast, ↓reduceIte, Nat.reduceEqDiff, Nat.reduceAdd, Nat.reduceMul, Nat.reduceSub, Nat.reduceLT, Int.reduceToNat]))
    simp [okKeysFrom]
  rintro i e h' hi ⟨hp, rfl, ha⟩
  refine T_pins hp fun e => ?_
  (try (simp (disch := first | omega | (simp <;> omega) | fail) only [push_cast, ↓reduceIte, Nat.reduceEqDiff, Nat.reduceAdd, Nat.reduceMul, Nat.reduceSub, Nat.reduceLT, Int.reduceToNat]))
  first | refine goC_split (fun hc => ?_) (fun hc => ?_) | refine cnd_split (fun hc => ?_) (fun hc => ?_)
  · (try (simp only [decide_eq_true_eq, decide_eq_false_iff_not, Bool.not_eq_true', Bool.not_eq_false', Bool.and_eq_true, Bool.or_eq_true, Int.not_lt, Int.not_le] at hc)); (try (simp (disch := first | omega | (simp <;> omega) | fail) only [push_cast, ↓reduceIte, Nat.reduceEqDiff, Nat.reduceAdd, Nat.reduceMul, Nat.reduceSub, Nat.reduceLT, Int.reduceToNat]))
    have hi : i < (lS a).length := by omega
    have hf : okKeysFrom (lS a) (i + 1) = false → okKeys (lS a) = false := fun hf => by
      unfold okKeys
      rw [okKeysFrom_false (show i + 1 ≤ (lS a).length by omega) hf, Bool.false_and]
    (try (simp (disch := first | omega | (simp <;> omega) | fail) only [push_cast, ↓reduceIte, Nat.reduceEqDiff, Nat.reduceAdd, Nat.reduceMul, Nat.reduceSub, Nat.reduceLT, Int.reduceToNat]))
    refine (c_impl_IsKey _).call ?_
    (try (simp (disch := first | omega | (simp <;> omega) | fail) only [push_cast, ↓reduceIte, Nat.reduceEqDiff, Nat.reduceAdd, Nat.reduceMul, Nat.reduceSub, Nat.reduceLT, Int.reduceToNat]))
    cases hk : okKey ((lS a).getD i [])
    · (try (simp (disch := first | omega | (simp <;> omega) | fail) only [push_cast, ↓reduceIte, Nat.reduceEqDiff, Nat.reduceAdd, Nat.reduceMul, Nat.reduceSub, Nat.reduceLT, Int.reduceToNat]))
      rw [hf (by simp only [okKeysFrom, hk, Bool.false_and, Bool.and_false])]
    · (try (simp (disch := first | omega | (simp <;> omega) | fail) only [push_cast, ↓reduceIte, Nat.reduceEqDiff, Nat.reduceAdd, Nat.reduceMul, Nat.reduceSub, Nat.reduceLT, Int.reduceToNat]))
      first | refine goC_split (fun hc => ?_) (fun hc => ?_) | refine cnd_split (fun hc => ?_) (fun hc => ?_)
      · (try (simp only [decide_eq_true_eq, decide_eq_false_iff_not, Bool.not_eq_true', Bool.not_eq_false', Bool.and_eq_true, Bool.or_eq_true, Int.not_lt, Int.not_le] at hc)); (try (simp (disch := first | omega | (simp <;> omega) | fail) only [push_cast, ↓reduceIte, Nat.reduceEqDiff, Nat.reduceAdd, Nat.reduceMul, Nat.reduceSub, Nat.reduceLT, Int.reduceToNat]))
        (try (simp (disch := first | omega | (simp <;> omega) | fail) only [push_cast, ↓reduceIte, Nat.reduceEqDiff, Nat.reduceAdd, Nat.reduceMul, Nat.reduceSub, Nat.reduceLT, Int.reduceToNat]))
        first | refine goC_split (fun hd => ?_) (fun hd => ?_) | refine cnd_split (fun hd => ?_) (fun hd => ?_)
        · (try (simp (disch := first | omega | (simp <;> omega) | fail) only [push_cast, ↓reduceIte, Nat.reduceEqDiff, Nat.reduceAdd, Nat.reduceMul, Nat.reduceSub, Nat.reduceLT, Int.reduceToNat]))
          rw [hf (by
            rw [Bool.not_eq_true'] at hd
            simp only [okKeysFrom, hk, Bool.true_and, show i ≠ 0 by omega, decide_false, Bool.false_or, hd, Bool.and_false])]
        · (try (simp (disch := first | omega | (simp <;> omega) | fail) only [push_cast, ↓reduceIte, Nat.reduceEqDiff, Nat.reduceAdd, Nat.reduceMul, Nat.reduceSub, Nat.reduceLT, Int.reduceToNat]))
          rw [Bool.not_eq_false'] at hd
          simp only [okKeysFrom, ha, hk, Bool.true_and, hd, Bool.or_true]
      · (try (simp only [decide_eq_true_eq, decide_eq_false_iff_not, Bool.not_eq_true', Bool.not_eq_false', Bool.and_eq_true, Bool.or_eq_true, Int.not_lt, Int.not_le] at hc)); (try (simp (disch := first | omega | (simp <;> omega) | fail) only [push_cast, ↓reduceIte, Nat.reduceEqDiff, Nat.reduceAdd, Nat.reduceMul, Nat.reduceSub, Nat.reduceLT, Int.reduceToNat]))
        (try (simp (disch := first | omega | (simp <;> omega) | fail) only [push_cast, ↓reduceIte, Nat.reduceEqDiff, Nat.reduceAdd, Nat.reduceMul, Nat.reduceSub, Nat.reduceLT, Int.reduceToNat]))
        have : i = 0 := by omega
        subst this
        simp only [okKeysFrom, hk, Bool.true_and, decide_true, Bool.true_or]
  · (try (simp only [decide_eq_true_eq, decide_eq_false_iff_not, Bool.not_eq_true', Bool.not_eq_false', Bool.and_eq_true, Bool.or_eq_true, Int.not_lt, Int.not_le] at hc)); (try (simp (disch := first | omega | (simp <;> omega) | fail) only [push_cast, ↓reduceIte, Nat.reduceEqDiff, Nat.reduceAdd, Nat.reduceMul, Nat.reduceSub, Nat.reduceLT, Int.reduceToNat]))
    have he : i = (lS a).length := by omega
    subst he
    have hk : okKeys (lS a) = decide (((lS a).length : Int) ≤ 40) := by
      unfold okKeys
      rw [ha, Bool.true_and]
    rw [hk]
    (first | refine goC_split (fun hc => ?_) (fun hc => ?_) | refine cnd_split (fun hc => ?_) (fun hc => ?_)) <;> ((try (simp (disch := first | omega | (simp <;> omega) | fail) only [push_cast, ↓reduceIte, Nat.reduceEqDiff, Nat.reduceAdd, Nat.reduceMul, Nat.reduceSub, Nat.reduceLT, Int.reduceToNat]))) <;> (try rw [hc])

theorem c_impl_hash (seed part : Int) (s : Str) (h1 : 0 ≤ seed) (h2 : seed ≤ 9999) (h3 : 0 ≤ part) (h4 : part ≤ 9999) : Fn Try.prog 97 [.int .i64 seed, .int .i64 part, .str s] (· = .int .i64 (hashV seed part s)) := by
  refine Fn.of free_int fun h => ?_
  refine enter (by kernel_rfl) e97 (by kernel_rfl) rfl fun hok => ?_
  simp only [r97, initEnv_3]
  have hlen := (okV_2 hok).str
  (try (simp (disch := first | omega | (simp <;> omega) | fail) only [push_cast, ↓reduceIte, Nat.reduceEqDiff, Nat.reduceAdd, Nat.reduceMul, Nat.reduceSub, Nat.reduceLT, Int.reduceToNat]))
  refine T_for s.length (fun i e h' => Pins e [(2, .str s), (7, .int .i64 (hk seed part (s.take i))), (18, .int .i64 s.length), (19, .int .i64 i)] ∧ h' = h) ?_ ?_
  · (try (simp (disch := first | omega | (simp <;> omega) | fail) only [push_cast, ↓reduceIte, Nat.reduceEqDiff, Nat.reduceAdd, Nat.reduceMul, Nat.reduceSub, Nat.reduceLT, Int.reduceToNat]))
    all_goals (try simp [hk])
  rintro i e h' hi ⟨hp, rfl⟩
  refine T_pins hp fun e => ?_
  have hb := hk_bd seed part (s.take i)
  (try (simp (disch := first | omega | (simp <;> omega) | fail) only [push_cast, ↓reduceIte, Nat.reduceEqDiff, Nat.reduceAdd, Nat.reduceMul, Nat.reduceSub, Nat.reduceLT, Int.reduceToNat]))
  first | refine goC_split (fun hc => ?_) (fun hc => ?_) | refine cnd_split (fun hc => ?_) (fun hc => ?_)
  · (try (simp only [decide_eq_true_eq, decide_eq_false_iff_not, Bool.not_eq_true', Bool.not_eq_false', Bool.and_eq_true, Bool.or_eq_true, Int.not_lt, Int.not_le] at hc)); (try (simp (disch := first | omega | (simp <;> omega) | fail) only [push_cast, ↓reduceIte, Nat.reduceEqDiff, Nat.reduceAdd, Nat.reduceMul, Nat.reduceSub, Nat.reduceLT, Int.reduceToNat]))
    have hi : i < s.length := by omega
    have hcb : (s.getD i 0).toNat < 256 := UInt8.toNat_lt _
    have hn := hk_take (seed := seed) (part := part) hi
    (try (simp (disch := first | omega | (simp <;> omega) | fail) only [push_cast, ↓reduceIte, Nat.reduceEqDiff, Nat.reduceAdd, Nat.reduceMul, Nat.reduceSub, Nat.reduceLT, Int.reduceToNat]))
    all_goals (try (rw [hn]))
  · (try (simp only [decide_eq_true_eq, decide_eq_false_iff_not, Bool.not_eq_true', Bool.not_eq_false', Bool.and_eq_true, Bool.or_eq_true, Int.not_lt, Int.not_le] at hc)); (try (simp (disch := first | omega | (simp <;> omega) | fail) only [push_cast, ↓reduceIte, Nat.reduceEqDiff, Nat.reduceAdd, Nat.reduceMul, Nat.reduceSub, Nat.reduceLT, Int.reduceToNat]))
    have he : s.take i = s := List.take_of_length_le (by omega)
    rw [he] at hb ⊢
    refine T_for 11 (fun j e h'' => Pins e [(7, .int .i64 (hk seed part s)), (9, .int .i64 (hk seed part s ^ j % 65521)), (31, .int .i64 j)] ∧ h'' = h') ?_ ?_
    · (try (simp (disch := first | omega | (simp <;> omega) | fail) only [push_cast, ↓reduceIte, Nat.reduceEqDiff, Nat.reduceAdd, Nat.reduceMul, Nat.reduceSub, Nat.reduceLT, Int.reduceToNat]))
      all_goals (try simp)
    rintro j e h'' hj ⟨hp, rfl⟩
    refine T_pins hp fun e => ?_
    have hm := mul_bd (x := hk seed part s ^ j % 65521) (y := hk seed part s) (a := 65521) (b := 65521) (by omega) (by omega) (by omega) (by omega)
    have hst := pow_step (hk seed part s) j
    (try (simp (disch := first | omega | (simp <;> omega) | fail) only [push_cast, ↓reduceIte, Nat.reduceEqDiff, Nat.reduceAdd, Nat.reduceMul, Nat.reduceSub, Nat.reduceLT, Int.reduceToNat]))
    first | refine goC_split (fun hd => ?_) (fun hd => ?_) | refine cnd_split (fun hd => ?_) (fun hd => ?_)
    · (try (simp only [decide_eq_true_eq, decide_eq_false_iff_not, Bool.not_eq_true', Bool.not_eq_false', Bool.and_eq_true, Bool.or_eq_true, Int.not_lt, Int.not_le] at hd)); (try (simp (disch := first | omega | (simp <;> omega) | fail) only [push_cast, ↓reduceIte, Nat.reduceEqDiff, Nat.reduceAdd, Nat.reduceMul, Nat.reduceSub, Nat.reduceLT, Int.reduceToNat]))
      all_goals (try omega)
    · (try (simp only [decide_eq_true_eq, decide_eq_false_iff_not, Bool.not_eq_true', Bool.not_eq_false', Bool.and_eq_true, Bool.or_eq_true, Int.not_lt, Int.not_le] at hd)); (try (simp (disch := first | omega | (simp <;> omega) | fail) only [push_cast, ↓reduceIte, Nat.reduceEqDiff, Nat.reduceAdd, Nat.reduceMul, Nat.reduceSub, Nat.reduceLT, Int.reduceToNat]))
      have : j = 11 := by omega
      subst this
      rfl

theorem c_impl_place (seed part : Int) (s : Str) (n : Int) (h1 : 0 ≤ seed) (h2 : seed ≤ 9999) (h3 : 0 ≤ part) (h4 : part ≤ 9999) (h5 : 0 ≤ n) (h6 : n ≤ 1048576) : Fn Try.prog 68 [.int .i64 seed, .int .i64 part, .str s, .int .i64 n] (· = .int .i64 (placeV seed part s n)) := by
  refine Fn.of free_int fun h => ?_
  refine enter (by kernel_rfl) e68 (by kernel_rfl) rfl fun hok => ?_
  simp only [r68, initEnv_4]
  (try (simp (disch := first | omega | (simp <;> omega) | fail) only [push_cast, ↓reduceIte, Nat.reduceEqDiff, Nat.reduceAdd, Nat.reduceMul, Nat.reduceSub, Nat.reduceLT, Int.reduceToNat]))
  refine (c_impl_hash seed part s h1 h2 h3 h4).call ?_
  have hb := hashV_bd seed part s
  have hm := mul_bd (x := hashV seed part s) (y := n) (a := 65521) (b := 1048576) (by omega) (by omega) h5 h6
  (try (simp (disch := first | omega | (simp <;> omega) | fail) only [push_cast, ↓reduceIte, Nat.reduceEqDiff, Nat.reduceAdd, Nat.reduceMul, Nat.reduceSub, Nat.reduceLT, Int.reduceToNat]))
  all_goals (try rfl)

theorem c_impl_split_own (seed : Int) (keys : Option (List Str)) (n : Nat) (h1 : 0 ≤ seed) (h2 : seed ≤ 9999) (h3 : 1 ≤ n) (h4 : n ≤ 8) (hl : (lS keys).length ≤ 40) (h : H) :
    Call Try.prog 53 [.int .i64 seed, eS keys, .int .i64 n] h Nowhere (fun x h' => x = .sl h.length 0 1 n n ∧ SpI h h' n (shardL seed (lS keys) n)) := by
  refine enter (by kernel_rfl) e53 (by kernel_rfl) rfl fun hok => ?_
  simp only [r53, initEnv_3]
  have hlen := ok_eS (okV_1 hok)
  (try (simp (disch := first | omega | (simp <;> omega) | fail) only [push_cast, ↓reduceIte, Nat.reduceEqDiff, Nat.reduceAdd, Nat.reduceMul, Nat.reduceSub, Nat.reduceLT, Int.reduceToNat]))
  refine T_for (lS keys).length (fun i e h' => Pins e [(0, .int .i64 seed), (2, .int .i64 n), (7, .sl h.length 0 1 n n), (13, eS keys), (14, .int .i64 (lS keys).length), (15, .int .i64 i)] ∧ SpI h h' n (shardL seed ((lS keys).take i) n)) ?_ ?_
  · (try (simp (disch := first | omega | (simp <;> omega) | fail) only [push_cast, ↓reduceIte, Nat.reduceEqDiff, Nat.reduceAdd, Nat.reduceMul, Nat.reduceSub, Nat.reduceLT, Int.reduceToNat]))
    all_goals (try exact ⟨by simp, _, _, SS.fresh⟩)
  rintro i e h' hi ⟨hp, hlt, vs, Bs, hs⟩
  refine T_pins hp fun e => ?_
  (try (simp (disch := first | omega | (simp <;> omega) | fail) only [push_cast, ↓reduceIte, Nat.reduceEqDiff, Nat.reduceAdd, Nat.reduceMul, Nat.reduceSub, Nat.reduceLT, Int.reduceToNat]))
  first | refine goC_split (fun hc => ?_) (fun hc => ?_) | refine cnd_split (fun hc => ?_) (fun hc => ?_)
  · (try (simp only [decide_eq_true_eq, decide_eq_false_iff_not, Bool.not_eq_true', Bool.not_eq_false', Bool.and_eq_true, Bool.or_eq_true, Int.not_lt, Int.not_le] at hc)); (try (simp (disch := first | omega | (simp <;> omega) | fail) only [push_cast, ↓reduceIte, Nat.reduceEqDiff, Nat.reduceAdd, Nat.reduceMul, Nat.reduceSub, Nat.reduceLT, Int.reduceToNat]))
    have hi2 : i < (lS keys).length := by omega
    have hcs := hs.out.2.2
    (try (simp (disch := first | omega | (simp <;> omega) | fail) only [push_cast, ↓reduceIte, Nat.reduceEqDiff, Nat.reduceAdd, Nat.reduceMul, Nat.reduceSub, Nat.reduceLT, Int.reduceToNat]))
    refine (c_impl_place seed 9 ((lS keys).getD i []) n (by omega) (by omega) (by omega) (by omega) (by omega) (by omega)).call ?_
    obtain ⟨p1, p2⟩ := placeV_bd (seed := seed) (part := 9) (s := (lS keys).getD i []) (n := (n : Int)) (by omega)
    obtain ⟨p, hp⟩ : ∃ p : Nat, placeV seed 9 ((lS keys).getD i []) n = (p : Int) := ⟨_, (Int.toNat_of_nonneg p1).symm⟩
    have hpn : p < n := by omega
    have hgp := get_range (vs := vs) hpn
    have hst := shardL_take (seed := seed) (n := n) hi2
    rw [hp] at hst ⊢
    (try (simp (disch := first | omega | (simp <;> omega) | fail) only [push_cast, ↓reduceIte, Nat.reduceEqDiff, Nat.reduceAdd, Nat.reduceMul, Nat.reduceSub, Nat.reduceLT, Int.reduceToNat, hcs, hgp]))
    obtain ⟨g1, g2, g3, g4⟩ := hs.2.2 p hpn
    have hll : (shardL seed ((lS keys).take i) n p).length ≤ 40 := by
      have := shardL_len (seed := seed) (keys := (lS keys).take i) (n := n) (k := p)
      rw [List.length_take] at this
      omega
    have g5 := g1.frame (h' := h' ++ [some (.cells [.str ((lS keys).getD i [])])]) fun b hb => List.getElem?_append_left (g1.lt b hb)
    refine S1.app g5 (pm := fun b => Nowhere b ∨ h.length ≤ b) (by_ := 16) (k := 1) (new := [.str ((lS keys).getD i [])]) (fun b hb => Or.inr (g3 b hb).1) rfl (by decide) (by omega) ?_
    intro v' h'' B' q1 q2 q3 q4
    have q2' : h'.length < h''.length := by simp at q2; omega
    have hx : S1 h'' 1 v' (shardL seed ((lS keys).take i) n p ++ [(lS keys).getD i []]).length ((shardL seed ((lS keys).take i) n p ++ [(lS keys).getD i []]).map .str) B' := by simpa using q1
    obtain ⟨r1, r2⟩ := hs.put hpn (fun b' hb' hn => (q3 b' (by simp; omega) hn).trans (List.getElem?_append_left hb')) hx (fun h0 => by simp at h0) (fun b' hb' => by
      rcases q4 b' hb' with h5 | h5
      · exact .inl h5
      · simp at h5
        exact .inr (by omega)) (by omega) (by omega)
    obtain ⟨hone, hcel⟩ := hx.one_
    (try (simp (disch := first | omega | (simp <;> omega) | fail) only [push_cast, ↓reduceIte, Nat.reduceEqDiff, Nat.reduceAdd, Nat.reduceMul, Nat.reduceSub, Nat.reduceLT, Int.reduceToNat, r1, hone, hcel]))
    refine ⟨by simp [wr]; omega, _, _, r2.congr fun k hk => ?_⟩
    rw [hst k]
    by_cases hkp : k = p
    · subst hkp
      simp
    · rw [if_neg hkp, if_neg (by omega)]
  · (try (simp only [decide_eq_true_eq, decide_eq_false_iff_not, Bool.not_eq_true', Bool.not_eq_false', Bool.and_eq_true, Bool.or_eq_true, Int.not_lt, Int.not_le] at hc)); (try (simp (disch := first | omega | (simp <;> omega) | fail) only [push_cast, ↓reduceIte, Nat.reduceEqDiff, Nat.reduceAdd, Nat.reduceMul, Nat.reduceSub, Nat.reduceLT, Int.reduceToNat]))
    have he : (lS keys).take i = lS keys := List.take_of_length_le (by omega)
    rw [he] at hs
    exact ⟨hlt, _, _, hs⟩
theorem c_impl_split (seed : Int) (keys : Option (List Str)) (n : Nat) (h1 : 0 ≤ seed) (h2 : seed ≤ 9999) (h3 : 1 ≤ n) (h4 : n ≤ 8) (hl : (lS keys).length ≤ 40) :
    Fn Try.prog 53 [.int .i64 seed, eS keys, .int .i64 n] (· = eSS (splitV seed (lS keys) n)) :=
  Fn.froze_ fun h => (c_impl_split_own seed keys n h1 h2 h3 h4 hl h).mono (fun x h' hx => by
    obtain ⟨rfl, _, vs, Bs, hs⟩ := hx
    exact ⟨_, hs.vw (by omega), rfl⟩) (fun _ _ h => h)

theorem c_impl_threePlaces (seed : Int) (key : Str) (seg : Int) (h1 : 0 ≤ seed) (h2 : seed ≤ 9999) (h3 : 1 ≤ seg) (h4 : seg ≤ 24) : Fn Try.prog 128 [.int .i64 seed, .str key, .int .i64 seg] (fun x => ∃ o, x = eI o ∧ lI o = tri seed key seg 3) := by
  refine Fn.froze_ fun h => ?_
  refine enter (by kernel_rfl) e128 (by kernel_rfl) rfl fun hok => ?_
  simp only [r128, initEnv_3]
  (try (simp (disch := first | omega | (simp <;> omega) | fail) only [push_cast, ↓reduceIte, Nat.reduceEqDiff, Nat.reduceAdd, Nat.reduceMul, Nat.reduceSub, Nat.reduceLT, Int.reduceToNat]))
  refine T_for 3 (fun i e h' => ∃ v, Pins e [(0, .int .i64 seed), (1, .str key), (2, .int .i64 seg), (7, v), (10, .int .i64 i)] ∧ Gr h h' 1 v i ((tri seed key seg i).map (.int .i64))) ?_ ?_
  · refine ⟨.sl h.length 0 1 0 0, ?_, ⟨⟨_, rfl⟩, rfl, .inr ⟨h.length, 0, [], Nat.le_refl _, rfl, Nat.le_refl _, by simp, ?_, rfl⟩⟩⟩
    · (try (simp (disch := first | omega | (simp <;> omega) | fail) only [push_cast, ↓reduceIte, Nat.reduceEqDiff, Nat.reduceAdd, Nat.reduceMul, Nat.reduceSub, Nat.reduceLT, Int.reduceToNat]))
    · rw [cells_h0]
      rfl
  rintro i e h' hi ⟨v, hp, hg⟩
  refine T_pins hp fun e => ?_
  (try (simp (disch := first | omega | (simp <;> omega) | fail) only [push_cast, ↓reduceIte, Nat.reduceEqDiff, Nat.reduceAdd, Nat.reduceMul, Nat.reduceSub, Nat.reduceLT, Int.reduceToNat]))
  first | refine goC_split (fun hc => ?_) (fun hc => ?_) | refine cnd_split (fun hc => ?_) (fun hc => ?_)
  · (try (simp only [decide_eq_true_eq, decide_eq_false_iff_not, Bool.not_eq_true', Bool.not_eq_false', Bool.and_eq_true, Bool.or_eq_true, Int.not_lt, Int.not_le] at hc)); (try (simp (disch := first | omega | (simp <;> omega) | fail) only [push_cast, ↓reduceIte, Nat.reduceEqDiff, Nat.reduceAdd, Nat.reduceMul, Nat.reduceSub, Nat.reduceLT, Int.reduceToNat]))
    have hb := placeV_bd (seed := seed) (part := (i : Int)) (s := key) (n := seg) (by omega)
    have hm := mul_bd (x := (i : Int)) (y := seg) (a := 3) (b := 24) (by omega) (by omega) (by omega) (by omega)
    refine (c_impl_place seed i key seg (by omega) (by omega) (by omega) (by omega) (by omega) (by omega)).call ?_
    (try (simp (disch := first | omega | (simp <;> omega) | fail) only [push_cast, ↓reduceIte, Nat.reduceEqDiff, Nat.reduceAdd, Nat.reduceMul, Nat.reduceSub, Nat.reduceLT, Int.reduceToNat]))
    refine Gr.app2 hg (fun b hb => .inr hb) (new := [.int .i64 (placeV seed i key seg + i * seg)]) rfl (by decide) (by omega) ?_
    intro v' p' q hpl _ hg'
    (try (simp (disch := first | omega | (simp <;> omega) | fail) only [push_cast, ↓reduceIte, Nat.reduceEqDiff, Nat.reduceAdd, Nat.reduceMul, Nat.reduceSub, Nat.reduceLT, Int.reduceToNat]))
    refine ⟨v', rfl, ?_⟩
    rw [tri_succ, List.map_append]
    exact hg'
  · (try (simp only [decide_eq_true_eq, decide_eq_false_iff_not, Bool.not_eq_true', Bool.not_eq_false', Bool.and_eq_true, Bool.or_eq_true, Int.not_lt, Int.not_le] at hc)); (try (simp (disch := first | omega | (simp <;> omega) | fail) only [push_cast, ↓reduceIte, Nat.reduceEqDiff, Nat.reduceAdd, Nat.reduceMul, Nat.reduceSub, Nat.reduceLT, Int.reduceToNat]))
    have : i = 3 := by omega
    subst this
    obtain ⟨o, h5, h6⟩ := Gr.vwI (h := h) (h' := h') (v := v) (l := tri seed key seg 3) (by rw [tri_len]; exact hg)
    exact ⟨eI o, h5, o, rfl, h6⟩

theorem c_impl_led (m l : Option (List Int)) (hm : okMarks (lI m) = true) (hl : (lI l).length = 3) (hp : ∀ i, i < (lI l).length → 0 ≤ (lI l).getD i 0 ∧ (lI l).getD i 0 < (lI m).length) : Fn Try.prog 117 [eI m, eI l] (· = .int .i64 (sumAt (lI m) (lI l) % 3)) := by
  refine Fn.of free_int fun h => ?_
  refine enter (by kernel_rfl) e117 (by kernel_rfl) rfl fun hok => ?_
  simp only [r117, initEnv_2]
  obtain ⟨p1, p2⟩ := hp 0 (by omega)
  obtain ⟨p3, p4⟩ := hp 1 (by omega)
  obtain ⟨p5, p6⟩ := hp 2 (by omega)
  have g1 := okMarks_get hm ((lI l).getD 0 0).toNat
  have g2 := okMarks_get hm ((lI l).getD 1 0).toNat
  have g3 := okMarks_get hm ((lI l).getD 2 0).toNat
  have hsum : sumAt (lI m) (lI l) = (lI m).getD ((lI l).getD 0 0).toNat 0 + (lI m).getD ((lI l).getD 1 0).toNat 0 + (lI m).getD ((lI l).getD 2 0).toNat 0 := by
    generalize lI l = L at hl
    match L, hl with
    | [a, b, c], _ => simp [sumAt, Int.add_assoc]
  have t1 : (1 : Int).toNat = 1 := rfl
  have t2 : (2 : Int).toNat = 2 := rfl
  rw [hsum]
  (try (simp (disch := first | omega | (simp <;> omega) | fail) only [push_cast, ↓reduceIte, Nat.reduceEqDiff, Nat.reduceAdd, Nat.reduceMul, Nat.reduceSub, Nat.reduceLT, Int.reduceToNat, t1, t2]))

theorem c_impl_Peeled_place (p : Pd) (key : Str) (hk : OkP p) (cs : List AV) (off : Nat) (h0 : cs[off]? = some (.int .i64 p.seed)) (h1 : cs[off + 1]? = some (.int .i64 p.seg)) (h2 : cs[off + 2]? = some (eI p.marks)) : Fn Try.prog 100 [.rad cs off, .str key] (· = .int .i64 (leadV p key)) := by
  refine Fn.of free_int fun h => ?_
  refine enter (by kernel_rfl) e100 (by kernel_rfl) rfl fun hok => ?_
  simp only [r100, initEnv_2]
  have hml := hk.ml
  have hg0 := hk.g0
  (try (simp (disch := first | omega | (simp <;> omega) | fail) only [push_cast, ↓reduceIte, Nat.reduceEqDiff, Nat.reduceAdd, Nat.reduceMul, Nat.reduceSub, Nat.reduceLT, Int.reduceToNat, h0, h1, h2]))
  refine (c_impl_threePlaces p.seed key p.seg hk.s0 hk.s1 hk.g0 hk.g1).use ?_
  rintro x ⟨o, rfl, ho⟩
  have hol : (lI o).length = 3 := by rw [ho, tri_len]
  (try (simp (disch := first | omega | (simp <;> omega) | fail) only [push_cast, ↓reduceIte, Nat.reduceEqDiff, Nat.reduceAdd, Nat.reduceMul, Nat.reduceSub, Nat.reduceLT, Int.reduceToNat, h0, h1, h2]))
  refine (c_impl_led p.marks o hk.mo hol (fun i hi => by
    have := tri_bd (seed := p.seed) (key := key) (seg := p.seg) (i := i) (by omega) (by omega)
    rw [ho]
    omega)).call ?_
  have hs := sumAt_bd hk.mo (lI o)
  (try (simp (disch := first | omega | (simp <;> omega) | fail) only [push_cast, ↓reduceIte, Nat.reduceEqDiff, Nat.reduceAdd, Nat.reduceMul, Nat.reduceSub, Nat.reduceLT, Int.reduceToNat, h0, h1, h2]))
  unfold leadV
  rw [ho]

theorem c_impl_Peeled_index (p : Pd) (key : Str) (hk : okPd p = true) (cs : List AV) (off : Nat) (h0 : cs[off]? = some (.int .i64 p.seed)) (h1 : cs[off + 1]? = some (.int .i64 p.seg)) (h2 : cs[off + 2]? = some (eI p.marks)) : Fn Try.prog 70 [.rad cs off, .str key] (· = indexV p key) := by
  refine Fn.of free_indexV fun h => ?_
  refine enter (by kernel_rfl) e70 (by kernel_rfl) rfl fun hok => ?_
  simp only [r70, initEnv_2]
  have hP := okP_of hk
  obtain ⟨b1, b2⟩ := leadV_bd hP key
  have hml := hP.ml
  have hg1 := hP.g1
  (try (simp (disch := first | omega | (simp <;> omega) | fail) only [push_cast, ↓reduceIte, Nat.reduceEqDiff, Nat.reduceAdd, Nat.reduceMul, Nat.reduceSub, Nat.reduceLT, Int.reduceToNat, h0, h1, h2]))
  refine (c_impl_Peeled_place p key hP cs off h0 h1 h2).call ?_
  (try (simp (disch := first | omega | (simp <;> omega) | fail) only [push_cast, ↓reduceIte, Nat.reduceEqDiff, Nat.reduceAdd, Nat.reduceMul, Nat.reduceSub, Nat.reduceLT, Int.reduceToNat, h0, h1, h2]))
  unfold indexV freeAt
  first | refine goC_split (fun hc => ?_) (fun hc => ?_) | refine cnd_split (fun hc => ?_) (fun hc => ?_)
  · (try (simp only [decide_eq_true_eq, decide_eq_false_iff_not, Bool.not_eq_true', Bool.not_eq_false', Bool.and_eq_true, Bool.or_eq_true, Int.not_lt, Int.not_le] at hc)); (try (simp (disch := first | omega | (simp <;> omega) | fail) only [push_cast, ↓reduceIte, Nat.reduceEqDiff, Nat.reduceAdd, Nat.reduceMul, Nat.reduceSub, Nat.reduceLT, Int.reduceToNat]))
    all_goals (try (rw [if_pos (by simpa using hc)]))
  · (try (simp only [decide_eq_true_eq, decide_eq_false_iff_not, Bool.not_eq_true', Bool.not_eq_false', Bool.and_eq_true, Bool.or_eq_true, Int.not_lt, Int.not_le] at hc)); (try (simp (disch := first | omega | (simp <;> omega) | fail) only [push_cast, ↓reduceIte, Nat.reduceEqDiff, Nat.reduceAdd, Nat.reduceMul, Nat.reduceSub, Nat.reduceLT, Int.reduceToNat]))
    try (rw [if_neg (by simp [hc])])
    have ht : ((leadV p key).toNat : Int) = leadV p key := Int.toNat_of_nonneg b1
    have hr := c_impl_Peeled_used p cs off h2 (leadV p key).toNat (by omega) (by omega)
    rw [ht] at hr
    refine hr.call ?_
    (try (simp (disch := first | omega | (simp <;> omega) | fail) only [push_cast, ↓reduceIte, Nat.reduceEqDiff, Nat.reduceAdd, Nat.reduceMul, Nat.reduceSub, Nat.reduceLT, Int.reduceToNat]))

theorem c_impl_distinct (a : Option (List Int)) : Fn Try.prog 102 [eI a] (· = .bool (decide (lI a).Nodup)) := by
  refine Fn.of free_bool fun h => ?_
  refine enter (by kernel_rfl) e102 (by kernel_rfl) rfl fun hok => ?_
  simp only [r102, initEnv_1]
  have hlen := ok_eI (okV_0 hok)
  (try (simp (disch := first | omega | (simp <;> omega) | fail) only [push_cast, ↓reduceIte, Nat.reduceEqDiff, Nat.reduceAdd, Nat.reduceMul, Nat.reduceSub, Nat.reduceLT, Int.reduceToNat]))
  refine T_for (lI a).length (fun i e h' => Pins e [(3, .mp h.length), (7, eI a), (8, .int .i64 (lI a).length), (9, .int .i64 i)] ∧ h' = h ++ [some (.map (mset ((lI a).take i)))] ∧ ((lI a).take i).Nodup) ?_ ?_
  · (try (simp (disch := first | omega | (simp <;> omega) | fail) only [push_cast, ↓reduceIte, Nat.reduceEqDiff, Nat.reduceAdd, Nat.reduceMul, Nat.reduceSub, Nat.reduceLT, Int.reduceToNat]))
    all_goals (try simp [mset])
  rintro i e h' hi ⟨hp, rfl, hnd⟩
  refine T_pins hp fun e => ?_
  (try (simp (disch := first | omega | (simp <;> omega) | fail) only [push_cast, ↓reduceIte, Nat.reduceEqDiff, Nat.reduceAdd, Nat.reduceMul, Nat.reduceSub, Nat.reduceLT, Int.reduceToNat]))
  first | refine goC_split (fun hc => ?_) (fun hc => ?_) | refine cnd_split (fun hc => ?_) (fun hc => ?_)
  · (try (simp only [decide_eq_true_eq, decide_eq_false_iff_not, Bool.not_eq_true', Bool.not_eq_false', Bool.and_eq_true, Bool.or_eq_true, Int.not_lt, Int.not_le] at hc)); (try (simp (disch := first | omega | (simp <;> omega) | fail) only [push_cast, ↓reduceIte, Nat.reduceEqDiff, Nat.reduceAdd, Nat.reduceMul, Nat.reduceSub, Nat.reduceLT, Int.reduceToNat]))
    have hi2 : i < (lI a).length := by omega
    have htk : (lI a).take (i + 1) = (lI a).take i ++ [(lI a).getD i 0] := by
      rw [List.take_add_one]
      simp [hi2]
    (try (simp (disch := first | omega | (simp <;> omega) | fail) only [push_cast, ↓reduceIte, Nat.reduceEqDiff, Nat.reduceAdd, Nat.reduceMul, Nat.reduceSub, Nat.reduceLT, Int.reduceToNat]))
    by_cases hm : (lI a).getD i 0 ∈ (lI a).take i
    · (try (simp (disch := first | omega | (simp <;> omega) | fail) only [push_cast, ↓reduceIte, Nat.reduceEqDiff, Nat.reduceAdd, Nat.reduceMul, Nat.reduceSub, Nat.reduceLT, Int.reduceToNat, hm]))
      symm
      rw [decide_eq_false_iff_not]
      intro hn
      have := (List.take_sublist (i + 1) (lI a)).nodup hn
      rw [htk, List.nodup_append] at this
      exact this.2.2 _ hm _ (by simp) rfl
    · (try (simp (disch := first | omega | (simp <;> omega) | fail) only [push_cast, ↓reduceIte, Nat.reduceEqDiff, Nat.reduceAdd, Nat.reduceMul, Nat.reduceSub, Nat.reduceLT, Int.reduceToNat, hm]))
      rw [htk]
      refine ⟨rfl, ?_⟩
      rw [List.nodup_append]
      refine ⟨hnd, by simp, ?_⟩
      intro x hx y hy
      have hy2 : y = (lI a).getD i 0 := by simpa using hy
      intro he
      exact hm (by rw [← hy2, ← he]; exact hx)
  · (try (simp only [decide_eq_true_eq, decide_eq_false_iff_not, Bool.not_eq_true', Bool.not_eq_false', Bool.and_eq_true, Bool.or_eq_true, Int.not_lt, Int.not_le] at hc)); (try (simp (disch := first | omega | (simp <;> omega) | fail) only [push_cast, ↓reduceIte, Nat.reduceEqDiff, Nat.reduceAdd, Nat.reduceMul, Nat.reduceSub, Nat.reduceLT, Int.reduceToNat]))
    have he : (lI a).take i = lI a := List.take_of_length_le (by omega)
    rw [he] at hnd
    simp [hnd]

theorem c_impl_Peeled_isFor (p : Pd) (keys : Option (List Str)) (hk : okPd p = true) (hl : (lS keys).length ≤ 40) (cs : List AV) (off : Nat) (h0 : cs[off]? = some (.int .i64 p.seed)) (h1 : cs[off + 1]? = some (.int .i64 p.seg)) (h2 : cs[off + 2]? = some (eI p.marks)) : Fn Try.prog 72 [.rad cs off, eS keys] (· = .bool (fitsV p (lS keys))) := by
  refine Fn.of free_bool fun h => ?_
  refine enter (by kernel_rfl) e72 (by kernel_rfl) rfl fun hok => ?_
  simp only [r72, initEnv_2]
  have hlen := ok_eS (okV_1 hok)
  have hop := okP_of hk
  (try (simp (disch := first | omega | (simp <;> omega) | fail) only [push_cast, ↓reduceIte, Nat.reduceEqDiff, Nat.reduceAdd, Nat.reduceMul, Nat.reduceSub, Nat.reduceLT, Int.reduceToNat]))
  refine T_for (lS keys).length (fun i e h' => ∃ v, Pins e [(0, .rad cs off), (1, eS keys), (5, v), (11, eS keys), (12, .int .i64 (lS keys).length), (13, .int .i64 i)] ∧ Gr h h' 1 v i ((ranksL p ((lS keys).take i)).map (.int .i64)) ∧ ((lS keys).take i).all (fun s => !freeAt p s) = true) ?_ ?_
  · refine ⟨.sl h.length 0 1 0 0, ?_, ?_⟩
    · (try (simp (disch := first | omega | (simp <;> omega) | fail) only [push_cast, ↓reduceIte, Nat.reduceEqDiff, Nat.reduceAdd, Nat.reduceMul, Nat.reduceSub, Nat.reduceLT, Int.reduceToNat]))
    · refine ⟨⟨⟨_, rfl⟩, by simp [ranksL], .inr ⟨h.length, 0, [], Nat.le_refl _, rfl, Nat.le_refl _, by simp, by rw [cells_h0]; rfl, by simp [ranksL]⟩⟩, by simp⟩
  rintro i e h' hi ⟨v, hp, hg, ha⟩
  refine T_pins hp fun e => ?_
  have hle : h.length ≤ h'.length := by
    obtain ⟨⟨p, rfl⟩, _⟩ := hg
    simp
  (try (simp (disch := first | omega | (simp <;> omega) | fail) only [push_cast, ↓reduceIte, Nat.reduceEqDiff, Nat.reduceAdd, Nat.reduceMul, Nat.reduceSub, Nat.reduceLT, Int.reduceToNat]))
  first | refine goC_split (fun hc => ?_) (fun hc => ?_) | refine cnd_split (fun hc => ?_) (fun hc => ?_)
  · (try (simp only [decide_eq_true_eq, decide_eq_false_iff_not, Bool.not_eq_true', Bool.not_eq_false', Bool.and_eq_true, Bool.or_eq_true, Int.not_lt, Int.not_le] at hc)); (try (simp (disch := first | omega | (simp <;> omega) | fail) only [push_cast, ↓reduceIte, Nat.reduceEqDiff, Nat.reduceAdd, Nat.reduceMul, Nat.reduceSub, Nat.reduceLT, Int.reduceToNat]))
    have hi2 : i < (lS keys).length := by omega
    have hat := all_take (f := fun s => !freeAt p s) hi2
    have hlt2 : ranksL p ((lS keys).take (i + 1)) = ranksL p ((lS keys).take i) ++ [(rank (lI p.marks) (leadV p ((lS keys).getD i [])).toNat : Int)] := by
      unfold ranksL
      rw [List.take_add_one, List.map_append]
      simp [hi2]
    (try (simp (disch := first | omega | (simp <;> omega) | fail) only [push_cast, ↓reduceIte, Nat.reduceEqDiff, Nat.reduceAdd, Nat.reduceMul, Nat.reduceSub, Nat.reduceLT, Int.reduceToNat]))
    refine (c_impl_Peeled_index p ((lS keys).getD i []) hk cs off h0 h1 h2).call ?_
    unfold indexV
    cases hf : freeAt p ((lS keys).getD i [])
    · (try (simp (disch := first | omega | (simp <;> omega) | fail) only [push_cast, ↓reduceIte, Nat.reduceEqDiff, Nat.reduceAdd, Nat.reduceMul, Nat.reduceSub, Nat.reduceLT, Int.reduceToNat]))
      refine Gr.app2 hg (fun b hb => .inr hb) (new := [.int .i64 (rank (lI p.marks) (leadV p ((lS keys).getD i [])).toNat)]) rfl (by decide) (by omega) ?_
      intro v' p' q hpl _ hg'
      (try (simp (disch := first | omega | (simp <;> omega) | fail) only [push_cast, ↓reduceIte, Nat.reduceEqDiff, Nat.reduceAdd, Nat.reduceMul, Nat.reduceSub, Nat.reduceLT, Int.reduceToNat]))
      refine ⟨_, rfl, ?_, ?_⟩
      · rw [hlt2, List.map_append]
        exact hg'
      · rw [hat, ha, hf]
        rfl
    · (try (simp (disch := first | omega | (simp <;> omega) | fail) only [push_cast, ↓reduceIte, Nat.reduceEqDiff, Nat.reduceAdd, Nat.reduceMul, Nat.reduceSub, Nat.reduceLT, Int.reduceToNat]))
      have : fitsV p (lS keys) = false := by
        unfold fitsV
        rw [all_no hi2 (by rw [hf]; rfl)]
        rfl
      rw [this]
  · (try (simp only [decide_eq_true_eq, decide_eq_false_iff_not, Bool.not_eq_true', Bool.not_eq_false', Bool.and_eq_true, Bool.or_eq_true, Int.not_lt, Int.not_le] at hc)); (try (simp (disch := first | omega | (simp <;> omega) | fail) only [push_cast, ↓reduceIte, Nat.reduceEqDiff, Nat.reduceAdd, Nat.reduceMul, Nat.reduceSub, Nat.reduceLT, Int.reduceToNat]))
    have he : (lS keys).take i = lS keys := List.take_of_length_le (by omega)
    rw [he] at ha hg
    have hml := okPd_len hk
    have hw := hg.vwI2 (l := ranksL p (lS keys)) (by simp [ranksL]; omega)
    obtain ⟨o, hw, ho⟩ := hw
    rw [fitsV_ranks hop ha]
    (try (simp (disch := first | omega | (simp <;> omega) | fail) only [push_cast, ↓reduceIte, Nat.reduceEqDiff, Nat.reduceAdd, Nat.reduceMul, Nat.reduceSub, Nat.reduceLT, Int.reduceToNat]))
    refine (c_impl_distinct o).lendL (.cons (hw.mono (Nat.zero_le _)) .nil) own_bool ?_
    rw [ho]
    cases hd : decide (ranksL p (lS keys)).Nodup
    · (try (simp (disch := first | omega | (simp <;> omega) | fail) only [push_cast, ↓reduceIte, Nat.reduceEqDiff, Nat.reduceAdd, Nat.reduceMul, Nat.reduceSub, Nat.reduceLT, Int.reduceToNat]))
    · (try (simp (disch := first | omega | (simp <;> omega) | fail) only [push_cast, ↓reduceIte, Nat.reduceEqDiff, Nat.reduceAdd, Nat.reduceMul, Nat.reduceSub, Nat.reduceLT, Int.reduceToNat, h2]))
      refine (c_impl_Peeled_used p cs off h2 _ (Nat.le_refl _) (by omega)).call ?_
      (try (simp (disch := first | omega | (simp <;> omega) | fail) only [push_cast, ↓reduceIte, Nat.reduceEqDiff, Nat.reduceAdd, Nat.reduceMul, Nat.reduceSub, Nat.reduceLT, Int.reduceToNat]))
      (first | refine goC_split (fun hc => ?_) (fun hc => ?_) | refine cnd_split (fun hc => ?_) (fun hc => ?_)) <;> ((try (simp (disch := first | omega | (simp <;> omega) | fail) only [push_cast, ↓reduceIte, Nat.reduceEqDiff, Nat.reduceAdd, Nat.reduceMul, Nat.reduceSub, Nat.reduceLT, Int.reduceToNat]))) <;> (try rw [hc])

theorem c_impl_IsShardedFor (s : Sh_) (keys : Option (List Str)) : Fn Try.prog 30 [eSh s, eS keys] (· = shForV s (lS keys)) := by
  refine Fn.of free_shForV fun h => ?_
  refine enter (by kernel_rfl) e30 (by kernel_rfl) rfl fun hok => ?_
  simp only [r30, initEnv_2]
  (try (simp (disch := first | omega | (simp <;> omega) | fail) only [push_cast, ↓reduceIte, Nat.reduceEqDiff, Nat.reduceAdd, Nat.reduceMul, Nat.reduceSub, Nat.reduceLT, Int.reduceToNat]))
  refine (c_impl_IsSharded s).call ?_
  unfold shForV
  cases h1 : okSh s
  · (try (simp (disch := first | omega | (simp <;> omega) | fail) only [push_cast, ↓reduceIte, Nat.reduceEqDiff, Nat.reduceAdd, Nat.reduceMul, Nat.reduceSub, Nat.reduceLT, Int.reduceToNat]))
    all_goals (try rfl)
  (try (simp (disch := first | omega | (simp <;> omega) | fail) only [push_cast, ↓reduceIte, Nat.reduceEqDiff, Nat.reduceAdd, Nat.reduceMul, Nat.reduceSub, Nat.reduceLT, Int.reduceToNat]))
  refine (c_impl_AreKeys keys).call ?_
  cases h2 : okKeys (lS keys)
  · (try (simp (disch := first | omega | (simp <;> omega) | fail) only [push_cast, ↓reduceIte, Nat.reduceEqDiff, Nat.reduceAdd, Nat.reduceMul, Nat.reduceSub, Nat.reduceLT, Int.reduceToNat]))
    all_goals (try rfl)
  have hp := okSh_parts h1
  have hkl := okKeys_len h2
  have hok1 := h1
  simp only [okSh, Bool.and_eq_true, decide_eq_true_eq] at hok1
  obtain ⟨_, _, hall, _⟩ := hok1
  (try (simp (disch := first | omega | (simp <;> omega) | fail) only [push_cast, ↓reduceIte, Nat.reduceEqDiff, Nat.reduceAdd, Nat.reduceMul, Nat.reduceSub, Nat.reduceLT, Int.reduceToNat]))
  refine (c_impl_split s.seed keys (lP s.parts).length (by omega) (by omega) (by omega) (by omega) hkl).call ?_
  unfold eSS
  have hspl := splitV_len (seed := s.seed) (keys := lS keys) (n := (lP s.parts).length)
  (try (simp (disch := first | omega | (simp <;> omega) | fail) only [push_cast, ↓reduceIte, Nat.reduceEqDiff, Nat.reduceAdd, Nat.reduceMul, Nat.reduceSub, Nat.reduceLT, Int.reduceToNat, hspl]))
  refine T_for (lP s.parts).length (fun i e h' => Pins e [(2, .adr h.length 0), (22, .ro 1 ((splitV s.seed (lS keys) (lP s.parts).length).map nS) (lP s.parts).length), (23, .int .i64 (lP s.parts).length), (24, .int .i64 i)] ∧ (h.length < h'.length ∧ H.cells h' h.length = some [.int .i64 s.seed, ePS s.parts, eI s.offs]) ∧ ((List.range i).all fun i => fitsV ((lP s.parts).getD i default) (shardL s.seed (lS keys) (lP s.parts).length i)) = true) ?_ ?_
  · (try (simp (disch := first | omega | (simp <;> omega) | fail) only [push_cast, ↓reduceIte, Nat.reduceEqDiff, Nat.reduceAdd, Nat.reduceMul, Nat.reduceSub, Nat.reduceLT, Int.reduceToNat]))
    all_goals (try simp)
  rintro i e h' hi ⟨hp, ⟨hlt, hbox⟩, ha⟩
  refine T_pins hp fun e => ?_
  (try (simp (disch := first | omega | (simp <;> omega) | fail) only [push_cast, ↓reduceIte, Nat.reduceEqDiff, Nat.reduceAdd, Nat.reduceMul, Nat.reduceSub, Nat.reduceLT, Int.reduceToNat, hbox]))
  first | refine goC_split (fun hc => ?_) (fun hc => ?_) | refine cnd_split (fun hc => ?_) (fun hc => ?_)
  · (try (simp only [decide_eq_true_eq, decide_eq_false_iff_not, Bool.not_eq_true', Bool.not_eq_false', Bool.and_eq_true, Bool.or_eq_true, Int.not_lt, Int.not_le] at hc)); (try (simp (disch := first | omega | (simp <;> omega) | fail) only [push_cast, ↓reduceIte, Nat.reduceEqDiff, Nat.reduceAdd, Nat.reduceMul, Nat.reduceSub, Nat.reduceLT, Int.reduceToNat]))
    have hi2 : i < (lP s.parts).length := by omega
    have hgs := get_splitV (seed := s.seed) (keys := lS keys) hi2
    have hk : okPd ((lP s.parts).getD i default) = true := List.all_eq_true.1 hall _ (by simp [hi2])
    (try (simp (disch := first | omega | (simp <;> omega) | fail) only [push_cast, ↓reduceIte, Nat.reduceEqDiff, Nat.reduceAdd, Nat.reduceMul, Nat.reduceSub, Nat.reduceLT, Int.reduceToNat, hbox, hgs]))
    unfold nS
    refine (c_impl_Peeled_isFor ((lP s.parts).getD i default) _ hk (by rw [lS_nS]; exact Nat.le_trans shardL_len hkl) ((lP s.parts).flatMap cP) (i * 3) (get_P0 hi2) (get_P1 hi2) (get_P2 hi2)).call ?_
    rw [lS_nS]
    have hn := all_range (f := fun i => fitsV ((lP s.parts).getD i default) (shardL s.seed (lS keys) (lP s.parts).length i)) (i := i)
    cases hf : fitsV ((lP s.parts).getD i default) (shardL s.seed (lS keys) (lP s.parts).length i)
    · rw [all_range_no hi2 hf]
      (try (simp (disch := first | omega | (simp <;> omega) | fail) only [push_cast, ↓reduceIte, Nat.reduceEqDiff, Nat.reduceAdd, Nat.reduceMul, Nat.reduceSub, Nat.reduceLT, Int.reduceToNat, hbox]))
      all_goals (try rfl)
    · (try (simp (disch := first | omega | (simp <;> omega) | fail) only [push_cast, ↓reduceIte, Nat.reduceEqDiff, Nat.reduceAdd, Nat.reduceMul, Nat.reduceSub, Nat.reduceLT, Int.reduceToNat, hbox]))
      rw [hn, ha, hf]
      all_goals (try simp)
  · (try (simp only [decide_eq_true_eq, decide_eq_false_iff_not, Bool.not_eq_true', Bool.not_eq_false', Bool.and_eq_true, Bool.or_eq_true, Int.not_lt, Int.not_le] at hc)); (try (simp (disch := first | omega | (simp <;> omega) | fail) only [push_cast, ↓reduceIte, Nat.reduceEqDiff, Nat.reduceAdd, Nat.reduceMul, Nat.reduceSub, Nat.reduceLT, Int.reduceToNat]))
    have : i = (lP s.parts).length := by omega
    subst this
    rw [ha]
    (try (simp (disch := first | omega | (simp <;> omega) | fail) only [push_cast, ↓reduceIte, Nat.reduceEqDiff, Nat.reduceAdd, Nat.reduceMul, Nat.reduceSub, Nat.reduceLT, Int.reduceToNat]))
    all_goals (try rfl)

theorem c_laws_eqIntS (a b : Option (List Int)) : Fn Try.prog 64 [eI a, eI b] (· = .bool (decide (lI a = lI b))) := by
  refine Fn.of free_bool fun h => ?_
  refine enter (by kernel_rfl) e64 (by kernel_rfl) rfl fun hok => ?_
  simp only [r64, initEnv_2]
  have ha := ok_eI (okV_0 hok)
  have hb := ok_eI (okV_1 hok)
  (try (simp (disch := first | omega | (simp <;> omega) | fail) only [push_cast, ↓reduceIte, Nat.reduceEqDiff, Nat.reduceAdd, Nat.reduceMul, Nat.reduceSub, Nat.reduceLT, Int.reduceToNat]))
  first | refine goC_split (fun hc => ?_) (fun hc => ?_) | refine cnd_split (fun hc => ?_) (fun hc => ?_)
  · (try (simp only [decide_eq_true_eq, decide_eq_false_iff_not, Bool.not_eq_true', Bool.not_eq_false', Bool.and_eq_true, Bool.or_eq_true, Int.not_lt, Int.not_le] at hc)); (try (simp (disch := first | omega | (simp <;> omega) | fail) only [push_cast, ↓reduceIte, Nat.reduceEqDiff, Nat.reduceAdd, Nat.reduceMul, Nat.reduceSub, Nat.reduceLT, Int.reduceToNat]))
    congr 1
    symm
    rw [decide_eq_false_iff_not]
    intro he
    rw [he] at hc
    exact hc rfl
  have hlen : (lI a).length = (lI b).length := by (try (simp only [decide_eq_true_eq, decide_eq_false_iff_not, Bool.not_eq_true', Bool.not_eq_false', Bool.and_eq_true, Bool.or_eq_true, Int.not_lt, Int.not_le] at hc)); (try (simp (disch := first | omega | (simp <;> omega) | fail) only [push_cast, ↓reduceIte, Nat.reduceEqDiff, Nat.reduceAdd, Nat.reduceMul, Nat.reduceSub, Nat.reduceLT, Int.reduceToNat])); omega
  (try (simp (disch := first | omega | (simp <;> omega) | fail) only [push_cast, ↓reduceIte, Nat.reduceEqDiff, Nat.reduceAdd, Nat.reduceMul, Nat.reduceSub, Nat.reduceLT, Int.reduceToNat]))
  refine T_for (lI a).length (fun i e h' => Pins e [(0, eI a), (1, eI b), (5, .int .i64 i)] ∧ h' = h ∧ (lI a).take i = (lI b).take i) ?_ ?_
  · (try (simp (disch := first | omega | (simp <;> omega) | fail) only [push_cast, ↓reduceIte, Nat.reduceEqDiff, Nat.reduceAdd, Nat.reduceMul, Nat.reduceSub, Nat.reduceLT, Int.reduceToNat]))
    simp
  rintro i e h' hi ⟨hp, rfl, he⟩
  refine T_pins hp fun e => ?_
  (try (simp (disch := first | omega | (simp <;> omega) | fail) only [push_cast, ↓reduceIte, Nat.reduceEqDiff, Nat.reduceAdd, Nat.reduceMul, Nat.reduceSub, Nat.reduceLT, Int.reduceToNat]))
  first | refine goC_split (fun hc => ?_) (fun hc => ?_) | refine cnd_split (fun hc => ?_) (fun hc => ?_)
  · (try (simp only [decide_eq_true_eq, decide_eq_false_iff_not, Bool.not_eq_true', Bool.not_eq_false', Bool.and_eq_true, Bool.or_eq_true, Int.not_lt, Int.not_le] at hc)); (try (simp (disch := first | omega | (simp <;> omega) | fail) only [push_cast, ↓reduceIte, Nat.reduceEqDiff, Nat.reduceAdd, Nat.reduceMul, Nat.reduceSub, Nat.reduceLT, Int.reduceToNat]))
    have hi : i < (lI a).length := by omega
    (try (simp (disch := first | omega | (simp <;> omega) | fail) only [push_cast, ↓reduceIte, Nat.reduceEqDiff, Nat.reduceAdd, Nat.reduceMul, Nat.reduceSub, Nat.reduceLT, Int.reduceToNat]))
    first | refine goC_split (fun hc => ?_) (fun hc => ?_) | refine cnd_split (fun hc => ?_) (fun hc => ?_)
    · (try (simp only [decide_eq_true_eq, decide_eq_false_iff_not, Bool.not_eq_true', Bool.not_eq_false', Bool.and_eq_true, Bool.or_eq_true, Int.not_lt, Int.not_le] at hc)); (try (simp (disch := first | omega | (simp <;> omega) | fail) only [push_cast, ↓reduceIte, Nat.reduceEqDiff, Nat.reduceAdd, Nat.reduceMul, Nat.reduceSub, Nat.reduceLT, Int.reduceToNat]))
      congr 1
      symm
      rw [decide_eq_false_iff_not]
      intro he
      rw [he] at hc
      exact hc rfl
    · (try (simp only [decide_eq_true_eq, decide_eq_false_iff_not, Bool.not_eq_true', Bool.not_eq_false', Bool.and_eq_true, Bool.or_eq_true, Int.not_lt, Int.not_le] at hc)); (try (simp (disch := first | omega | (simp <;> omega) | fail) only [push_cast, ↓reduceIte, Nat.reduceEqDiff, Nat.reduceAdd, Nat.reduceMul, Nat.reduceSub, Nat.reduceLT, Int.reduceToNat]))
      have h1 : i < (lI b).length := by omega
      simp [hi, h1] at hc
      rw [List.take_add_one, List.take_add_one, he]
      simp [hi, h1, hc]
  · (try (simp only [decide_eq_true_eq, decide_eq_false_iff_not, Bool.not_eq_true', Bool.not_eq_false', Bool.and_eq_true, Bool.or_eq_true, Int.not_lt, Int.not_le] at hc)); (try (simp (disch := first | omega | (simp <;> omega) | fail) only [push_cast, ↓reduceIte, Nat.reduceEqDiff, Nat.reduceAdd, Nat.reduceMul, Nat.reduceSub, Nat.reduceLT, Int.reduceToNat]))
    have hi2 : i = (lI a).length := by omega
    congr 1
    symm
    rw [decide_eq_true_iff]
    rw [hi2, List.take_length] at he
    rw [he, hlen, List.take_length]

theorem c_laws_eqPeeled (p q : Pd) : Fn Try.prog 96 [eP p, eP q] (· = .bool (decide (p.seed = q.seed) && (decide (p.seg = q.seg) && decide (lI p.marks = lI q.marks)))) := by
  refine Fn.of free_bool fun h => ?_
  refine enter (by kernel_rfl) e96 (by kernel_rfl) rfl fun hok => ?_
  simp only [r96, initEnv_2]
  (try (simp (disch := first | omega | (simp <;> omega) | fail) only [push_cast, ↓reduceIte, Nat.reduceEqDiff, Nat.reduceAdd, Nat.reduceMul, Nat.reduceSub, Nat.reduceLT, Int.reduceToNat]))
  first | refine goC_split (fun hc => ?_) (fun hc => ?_) | refine cnd_split (fun hc => ?_) (fun hc => ?_)
  · (try (simp only [decide_eq_true_eq, decide_eq_false_iff_not, Bool.not_eq_true', Bool.not_eq_false', Bool.and_eq_true, Bool.or_eq_true, Int.not_lt, Int.not_le] at hc)); (try (simp (disch := first | omega | (simp <;> omega) | fail) only [push_cast, ↓reduceIte, Nat.reduceEqDiff, Nat.reduceAdd, Nat.reduceMul, Nat.reduceSub, Nat.reduceLT, Int.reduceToNat]))
  (try (simp only [decide_eq_true_eq, decide_eq_false_iff_not, Bool.not_eq_true', Bool.not_eq_false', Bool.and_eq_true, Bool.or_eq_true, Int.not_lt, Int.not_le] at hc)); (try (simp (disch := first | omega | (simp <;> omega) | fail) only [push_cast, ↓reduceIte, Nat.reduceEqDiff, Nat.reduceAdd, Nat.reduceMul, Nat.reduceSub, Nat.reduceLT, Int.reduceToNat]))
  first | refine goC_split (fun hd => ?_) (fun hd => ?_) | refine cnd_split (fun hd => ?_) (fun hd => ?_)
  · (try (simp only [decide_eq_true_eq, decide_eq_false_iff_not, Bool.not_eq_true', Bool.not_eq_false', Bool.and_eq_true, Bool.or_eq_true, Int.not_lt, Int.not_le] at hd)); (try (simp (disch := first | omega | (simp <;> omega) | fail) only [push_cast, ↓reduceIte, Nat.reduceEqDiff, Nat.reduceAdd, Nat.reduceMul, Nat.reduceSub, Nat.reduceLT, Int.reduceToNat]))
  (try (simp only [decide_eq_true_eq, decide_eq_false_iff_not, Bool.not_eq_true', Bool.not_eq_false', Bool.and_eq_true, Bool.or_eq_true, Int.not_lt, Int.not_le] at hd)); (try (simp (disch := first | omega | (simp <;> omega) | fail) only [push_cast, ↓reduceIte, Nat.reduceEqDiff, Nat.reduceAdd, Nat.reduceMul, Nat.reduceSub, Nat.reduceLT, Int.reduceToNat]))
  refine (c_laws_eqIntS _ _).call ?_
  cases he : decide (lI p.marks = lI q.marks)
  · (try (simp (disch := first | omega | (simp <;> omega) | fail) only [push_cast, ↓reduceIte, Nat.reduceEqDiff, Nat.reduceAdd, Nat.reduceMul, Nat.reduceSub, Nat.reduceLT, Int.reduceToNat]))
    all_goals (try simp [hc, hd])
  · (try (simp (disch := first | omega | (simp <;> omega) | fail) only [push_cast, ↓reduceIte, Nat.reduceEqDiff, Nat.reduceAdd, Nat.reduceMul, Nat.reduceSub, Nat.reduceLT, Int.reduceToNat]))
    all_goals (try simp [hc, hd])

theorem c_laws_eqPeeledS (a b : Option (List Pd)) : Fn Try.prog 63 [ePS a, ePS b] (· = .bool (samePS (lP a) (lP b))) := by
  refine Fn.of free_bool fun h => ?_
  refine enter (by kernel_rfl) e63 (by kernel_rfl) rfl fun hok => ?_
  simp only [r63, initEnv_2]
  have ha := ok_ePS (okV_0 hok)
  have hb := ok_ePS (okV_1 hok)
  (try (simp (disch := first | omega | (simp <;> omega) | fail) only [push_cast, ↓reduceIte, Nat.reduceEqDiff, Nat.reduceAdd, Nat.reduceMul, Nat.reduceSub, Nat.reduceLT, Int.reduceToNat]))
  unfold samePS
  first | refine goC_split (fun hc => ?_) (fun hc => ?_) | refine cnd_split (fun hc => ?_) (fun hc => ?_)
  · (try (simp only [decide_eq_true_eq, decide_eq_false_iff_not, Bool.not_eq_true', Bool.not_eq_false', Bool.and_eq_true, Bool.or_eq_true, Int.not_lt, Int.not_le] at hc)); (try (simp (disch := first | omega | (simp <;> omega) | fail) only [push_cast, ↓reduceIte, Nat.reduceEqDiff, Nat.reduceAdd, Nat.reduceMul, Nat.reduceSub, Nat.reduceLT, Int.reduceToNat]))
  have hlen : ((lP a).length : Int) = (lP b).length := by (try (simp only [decide_eq_true_eq, decide_eq_false_iff_not, Bool.not_eq_true', Bool.not_eq_false', Bool.and_eq_true, Bool.or_eq_true, Int.not_lt, Int.not_le] at hc)); (try (simp (disch := first | omega | (simp <;> omega) | fail) only [push_cast, ↓reduceIte, Nat.reduceEqDiff, Nat.reduceAdd, Nat.reduceMul, Nat.reduceSub, Nat.reduceLT, Int.reduceToNat]))
  (try (simp (disch := first | omega | (simp <;> omega) | fail) only [push_cast, ↓reduceIte, Nat.reduceEqDiff, Nat.reduceAdd, Nat.reduceMul, Nat.reduceSub, Nat.reduceLT, Int.reduceToNat]))
  refine T_for (lP a).length (fun i e h' => Pins e [(0, ePS a), (1, ePS b), (5, .int .i64 i)] ∧ h' = h ∧ sameFrom (lP a) (lP b) i = true) ?_ ?_
  · (try (simp (disch := first | omega | (simp <;> omega) | fail) only [push_cast, ↓reduceIte, Nat.reduceEqDiff, Nat.reduceAdd, Nat.reduceMul, Nat.reduceSub, Nat.reduceLT, Int.reduceToNat]))
    simp [sameFrom]
  rintro i e h' hi ⟨hp, rfl, he⟩
  refine T_pins hp fun e => ?_
  (try (simp (disch := first | omega | (simp <;> omega) | fail) only [push_cast, ↓reduceIte, Nat.reduceEqDiff, Nat.reduceAdd, Nat.reduceMul, Nat.reduceSub, Nat.reduceLT, Int.reduceToNat]))
  first | refine goC_split (fun hc => ?_) (fun hc => ?_) | refine cnd_split (fun hc => ?_) (fun hc => ?_)
  · (try (simp only [decide_eq_true_eq, decide_eq_false_iff_not, Bool.not_eq_true', Bool.not_eq_false', Bool.and_eq_true, Bool.or_eq_true, Int.not_lt, Int.not_le] at hc)); (try (simp (disch := first | omega | (simp <;> omega) | fail) only [push_cast, ↓reduceIte, Nat.reduceEqDiff, Nat.reduceAdd, Nat.reduceMul, Nat.reduceSub, Nat.reduceLT, Int.reduceToNat]))
    have hi : i < (lP a).length := by omega
    (try (simp (disch := first | omega | (simp <;> omega) | fail) only [push_cast, ↓reduceIte, Nat.reduceEqDiff, Nat.reduceAdd, Nat.reduceMul, Nat.reduceSub, Nat.reduceLT, Int.reduceToNat]))
    refine (c_laws_eqPeeled ((lP a).getD i default) ((lP b).getD i default)).call ?_
    have hn : sameFrom (lP a) (lP b) (i + 1) = sameP ((lP a).getD i default) ((lP b).getD i default) := by simp [sameFrom, he]
    unfold sameP at hn
    rw [← hn]
    cases hk : sameFrom (lP a) (lP b) (i + 1)
    · (try (simp (disch := first | omega | (simp <;> omega) | fail) only [push_cast, ↓reduceIte, Nat.reduceEqDiff, Nat.reduceAdd, Nat.reduceMul, Nat.reduceSub, Nat.reduceLT, Int.reduceToNat]))
      exact (sameFrom_false (by omega) hk).symm
    · (try (simp (disch := first | omega | (simp <;> omega) | fail) only [push_cast, ↓reduceIte, Nat.reduceEqDiff, Nat.reduceAdd, Nat.reduceMul, Nat.reduceSub, Nat.reduceLT, Int.reduceToNat]))
      exact hk
  · (try (simp only [decide_eq_true_eq, decide_eq_false_iff_not, Bool.not_eq_true', Bool.not_eq_false', Bool.and_eq_true, Bool.or_eq_true, Int.not_lt, Int.not_le] at hc)); (try (simp (disch := first | omega | (simp <;> omega) | fail) only [push_cast, ↓reduceIte, Nat.reduceEqDiff, Nat.reduceAdd, Nat.reduceMul, Nat.reduceSub, Nat.reduceLT, Int.reduceToNat]))
    have : i = (lP a).length := by omega
    subst this
    exact he.symm

theorem c_laws_eqSharded (s t : Sh_) : Fn Try.prog 24 [eSh s, eSh t] (· = .bool (decide (s.seed = t.seed) && (samePS (lP s.parts) (lP t.parts) && decide (lI s.offs = lI t.offs)))) := by
  refine Fn.of free_bool fun h => ?_
  refine enter (by kernel_rfl) e24 (by kernel_rfl) rfl fun hok => ?_
  simp only [r24, initEnv_2]
  (try (simp (disch := first | omega | (simp <;> omega) | fail) only [push_cast, ↓reduceIte, Nat.reduceEqDiff, Nat.reduceAdd, Nat.reduceMul, Nat.reduceSub, Nat.reduceLT, Int.reduceToNat]))
  first | refine goC_split (fun hc => ?_) (fun hc => ?_) | refine cnd_split (fun hc => ?_) (fun hc => ?_)
  · (try (simp only [decide_eq_true_eq, decide_eq_false_iff_not, Bool.not_eq_true', Bool.not_eq_false', Bool.and_eq_true, Bool.or_eq_true, Int.not_lt, Int.not_le] at hc)); (try (simp (disch := first | omega | (simp <;> omega) | fail) only [push_cast, ↓reduceIte, Nat.reduceEqDiff, Nat.reduceAdd, Nat.reduceMul, Nat.reduceSub, Nat.reduceLT, Int.reduceToNat]))
  (try (simp only [decide_eq_true_eq, decide_eq_false_iff_not, Bool.not_eq_true', Bool.not_eq_false', Bool.and_eq_true, Bool.or_eq_true, Int.not_lt, Int.not_le] at hc)); (try (simp (disch := first | omega | (simp <;> omega) | fail) only [push_cast, ↓reduceIte, Nat.reduceEqDiff, Nat.reduceAdd, Nat.reduceMul, Nat.reduceSub, Nat.reduceLT, Int.reduceToNat]))
  refine (c_laws_eqPeeledS _ _).call ?_
  cases hk : samePS (lP s.parts) (lP t.parts)
  · (try (simp (disch := first | omega | (simp <;> omega) | fail) only [push_cast, ↓reduceIte, Nat.reduceEqDiff, Nat.reduceAdd, Nat.reduceMul, Nat.reduceSub, Nat.reduceLT, Int.reduceToNat]))
    all_goals (try simp)
  (try (simp (disch := first | omega | (simp <;> omega) | fail) only [push_cast, ↓reduceIte, Nat.reduceEqDiff, Nat.reduceAdd, Nat.reduceMul, Nat.reduceSub, Nat.reduceLT, Int.reduceToNat]))
  refine (c_laws_eqIntS _ _).call ?_
  cases he : decide (lI s.offs = lI t.offs)
  · (try (simp (disch := first | omega | (simp <;> omega) | fail) only [push_cast, ↓reduceIte, Nat.reduceEqDiff, Nat.reduceAdd, Nat.reduceMul, Nat.reduceSub, Nat.reduceLT, Int.reduceToNat]))
    all_goals (try simp [hc])
  · (try (simp (disch := first | omega | (simp <;> omega) | fail) only [push_cast, ↓reduceIte, Nat.reduceEqDiff, Nat.reduceAdd, Nat.reduceMul, Nat.reduceSub, Nat.reduceLT, Int.reduceToNat]))
    all_goals (try simp [hc])

theorem c_laws_eqStringS (a b : Option (List Str)) : Fn Try.prog 16 [eS a, eS b] (· = .bool (decide (lS a = lS b))) := by
  refine Fn.of free_bool fun h => ?_
  refine enter (by kernel_rfl) e16 (by kernel_rfl) rfl fun hok => ?_
  simp only [r16, initEnv_2]
  have ha := ok_eS (okV_0 hok)
  have hb := ok_eS (okV_1 hok)
  (try (simp (disch := first | omega | (simp <;> omega) | fail) only [push_cast, ↓reduceIte, Nat.reduceEqDiff, Nat.reduceAdd, Nat.reduceMul, Nat.reduceSub, Nat.reduceLT, Int.reduceToNat]))
  first | refine goC_split (fun hc => ?_) (fun hc => ?_) | refine cnd_split (fun hc => ?_) (fun hc => ?_)
  · (try (simp only [decide_eq_true_eq, decide_eq_false_iff_not, Bool.not_eq_true', Bool.not_eq_false', Bool.and_eq_true, Bool.or_eq_true, Int.not_lt, Int.not_le] at hc)); (try (simp (disch := first | omega | (simp <;> omega) | fail) only [push_cast, ↓reduceIte, Nat.reduceEqDiff, Nat.reduceAdd, Nat.reduceMul, Nat.reduceSub, Nat.reduceLT, Int.reduceToNat]))
    congr 1
    symm
    rw [decide_eq_false_iff_not]
    intro he
    rw [he] at hc
    exact hc rfl
  have hlen : (lS a).length = (lS b).length := by (try (simp only [decide_eq_true_eq, decide_eq_false_iff_not, Bool.not_eq_true', Bool.not_eq_false', Bool.and_eq_true, Bool.or_eq_true, Int.not_lt, Int.not_le] at hc)); (try (simp (disch := first | omega | (simp <;> omega) | fail) only [push_cast, ↓reduceIte, Nat.reduceEqDiff, Nat.reduceAdd, Nat.reduceMul, Nat.reduceSub, Nat.reduceLT, Int.reduceToNat])); omega
  (try (simp (disch := first | omega | (simp <;> omega) | fail) only [push_cast, ↓reduceIte, Nat.reduceEqDiff, Nat.reduceAdd, Nat.reduceMul, Nat.reduceSub, Nat.reduceLT, Int.reduceToNat]))
  refine T_for (lS a).length (fun i e h' => Pins e [(0, eS a), (1, eS b), (5, .int .i64 i)] ∧ h' = h ∧ (lS a).take i = (lS b).take i) ?_ ?_
  · (try (simp (disch := first | omega | (simp <;> omega) | fail) only [push_cast, ↓reduceIte, Nat.reduceEqDiff, Nat.reduceAdd, Nat.reduceMul, Nat.reduceSub, Nat.reduceLT, Int.reduceToNat]))
    simp
  rintro i e h' hi ⟨hp, rfl, he⟩
  refine T_pins hp fun e => ?_
  (try (simp (disch := first | omega | (simp <;> omega) | fail) only [push_cast, ↓reduceIte, Nat.reduceEqDiff, Nat.reduceAdd, Nat.reduceMul, Nat.reduceSub, Nat.reduceLT, Int.reduceToNat]))
  first | refine goC_split (fun hc => ?_) (fun hc => ?_) | refine cnd_split (fun hc => ?_) (fun hc => ?_)
  · (try (simp only [decide_eq_true_eq, decide_eq_false_iff_not, Bool.not_eq_true', Bool.not_eq_false', Bool.and_eq_true, Bool.or_eq_true, Int.not_lt, Int.not_le] at hc)); (try (simp (disch := first | omega | (simp <;> omega) | fail) only [push_cast, ↓reduceIte, Nat.reduceEqDiff, Nat.reduceAdd, Nat.reduceMul, Nat.reduceSub, Nat.reduceLT, Int.reduceToNat]))
    have hi : i < (lS a).length := by omega
    (try (simp (disch := first | omega | (simp <;> omega) | fail) only [push_cast, ↓reduceIte, Nat.reduceEqDiff, Nat.reduceAdd, Nat.reduceMul, Nat.reduceSub, Nat.reduceLT, Int.reduceToNat]))
    first | refine goC_split (fun hc => ?_) (fun hc => ?_) | refine cnd_split (fun hc => ?_) (fun hc => ?_)
    · (try (simp only [decide_eq_true_eq, decide_eq_false_iff_not, Bool.not_eq_true', Bool.not_eq_false', Bool.and_eq_true, Bool.or_eq_true, Int.not_lt, Int.not_le] at hc)); (try (simp (disch := first | omega | (simp <;> omega) | fail) only [push_cast, ↓reduceIte, Nat.reduceEqDiff, Nat.reduceAdd, Nat.reduceMul, Nat.reduceSub, Nat.reduceLT, Int.reduceToNat]))
      congr 1
      symm
      rw [decide_eq_false_iff_not]
      intro he
      rw [he] at hc
      exact hc rfl
    · (try (simp only [decide_eq_true_eq, decide_eq_false_iff_not, Bool.not_eq_true', Bool.not_eq_false', Bool.and_eq_true, Bool.or_eq_true, Int.not_lt, Int.not_le] at hc)); (try (simp (disch := first | omega | (simp <;> omega) | fail) only [push_cast, ↓reduceIte, Nat.reduceEqDiff, Nat.reduceAdd, Nat.reduceMul, Nat.reduceSub, Nat.reduceLT, Int.reduceToNat]))
      have h1 : i < (lS b).length := by omega
      simp [hi, h1] at hc
      rw [List.take_add_one, List.take_add_one, he]
      simp [hi, h1, hc]
  · (try (simp only [decide_eq_true_eq, decide_eq_false_iff_not, Bool.not_eq_true', Bool.not_eq_false', Bool.and_eq_true, Bool.or_eq_true, Int.not_lt, Int.not_le] at hc)); (try (simp (disch := first | omega | (simp <;> omega) | fail) only [push_cast, ↓reduceIte, Nat.reduceEqDiff, Nat.reduceAdd, Nat.reduceMul, Nat.reduceSub, Nat.reduceLT, Int.reduceToNat]))
    have hi2 : i = (lS a).length := by omega
    congr 1
    symm
    rw [decide_eq_true_iff]
    rw [hi2, List.take_length] at he
    rw [he, hlen, List.take_length]

theorem fits_cons {s : Sh} {ss : List Sh} {zs : List AV} (h : Fits (s :: ss) zs) : ∃ xs ys, zs = xs ++ ys ∧ Fit s xs ∧ Fits ss ys := by
  cases h with
  | cons h hr => exact ⟨_, _, rfl, h, hr⟩
theorem fits_nil {zs : List AV} (h : Fits [] zs) : zs = [] := by cases h; rfl
theorem fit_int {zs : List AV} (h : Fit (.int .i64) zs) : ∃ n : Int, zs = [.int .i64 n] ∧ -9223372036854775808 ≤ n ∧ n ≤ 9223372036854775807 := by
  cases h with
  | int h1 h2 => exact ⟨_, rfl, by simpa [IntKind.min, IntKind.signed, IntKind.bits] using h1, by simpa [IntKind.max, IntKind.signed, IntKind.bits] using h2⟩
theorem fit_str {zs : List AV} (h : Fit .str zs) : ∃ s : Str, zs = [.str s] ∧ s.length ≤ 9223372036854775807 := by
  cases h with
  | str h => exact ⟨_, rfl, h⟩
theorem fit_st {fs : List Sh} {zs : List AV} (h : Fit (.st fs) zs) : Fits fs zs := by
  cases h with
  | st h => exact h
theorem flatMap_eq {α β : Type} {f g : α → List β} : ∀ {l : List α}, (∀ a ∈ l, f a = g a) → l.flatMap f = l.flatMap g
  | [], _ => rfl
  | a :: l, h => by
    rw [List.flatMap_cons, List.flatMap_cons, h a (by simp), flatMap_eq fun b hb => h b (by simp [hb])]
theorem fit_strs {zs : List AV} (h : Fit (.sl .str 1) zs) : ∃ a : Option (List Str), zs = [eS a] := by
  cases h with
  | nil => exact ⟨none, rfl⟩
  | @sl _ _ n g hm hl h =>
    have hg : ∀ i, ∃ s : Str, i < n → g i = [.str s] := fun i => by
      by_cases hi : i < n
      · obtain ⟨s, hs, _⟩ := fit_str (h i hi)
        exact ⟨s, fun _ => hs⟩
      · exact ⟨[], fun h => absurd h hi⟩
    refine ⟨some ((List.range n).map fun i => Classical.choose (hg i)), ?_⟩
    simp only [eS, List.length_map, List.length_range, List.map_map]
    congr 2
    rw [← List.flatMap_singleton' ((List.range n).map _), List.flatMap_map]
    refine flatMap_eq fun i hi => ?_
    rw [Classical.choose_spec (hg i) (List.mem_range.1 hi)]
    rfl
theorem argsFit_cons {s : Sh} {ss : List Sh} {zs : List AV} (h : ArgsFit (s :: ss) zs) : ∃ xs ys, zs = argOf s xs :: ys ∧ Fit s xs ∧ ArgsFit ss ys := by
  cases h with
  | cons h hr => exact ⟨_, _, rfl, h, hr⟩
theorem argsFit_nil {zs : List AV} (h : ArgsFit [] zs) : zs = [] := by cases h; rfl

theorem fit_rows {α : Type} [Inhabited α] {s : Sh} {w : Nat} {f : α → List AV} (hf : ∀ xs, Fit s xs → ∃ a, xs = f a) {zs : List AV} (h : Fit (.sl s w) zs) : zs = [.nils] ∨ ∃ l : List α, zs = [.ro w (l.flatMap f) l.length] := by
  cases h with
  | nil => exact .inl rfl
  | @sl _ _ n g hm hl h =>
    have hg : ∀ i, ∃ a : α, i < n → g i = f a := fun i => by
      by_cases hi : i < n
      · obtain ⟨a, ha⟩ := hf _ (h i hi)
        exact ⟨a, fun _ => ha⟩
      · exact ⟨default, fun h => absurd h hi⟩
    refine .inr ⟨(List.range n).map fun i => Classical.choose (hg i), ?_⟩
    rw [List.length_map, List.length_range, List.flatMap_map]
    congr 2
    exact flatMap_eq fun i hi => Classical.choose_spec (hg i) (List.mem_range.1 hi)
theorem flatMap_one {α : Type} {f : α → AV} : ∀ {l : List α}, l.flatMap (fun a => [f a]) = l.map f
  | [] => rfl
  | a :: l => by rw [List.flatMap_cons, flatMap_one]; rfl
theorem fit_ints {zs : List AV} (h : Fit (.sl (.int .i64) 1) zs) : ∃ a : Option (List Int), zs = [eI a] := by
  rcases fit_rows (f := fun n : Int => [AV.int .i64 n]) (fun xs hx => by obtain ⟨n, hn, _⟩ := fit_int hx; exact ⟨n, hn⟩) h with rfl | ⟨l, rfl⟩
  · exact ⟨none, rfl⟩
  · exact ⟨some l, by rw [flatMap_one]; rfl⟩

def shPeeled : Sh := .st [.int .i64, .int .i64, .sl (.int .i64) 1]
theorem fit_peeled {zs : List AV} (h : Fit shPeeled zs) : ∃ p, zs = cP p := by
  obtain ⟨x1, y1, rfl, h1, h⟩ := fits_cons (fit_st h)
  obtain ⟨x2, y2, rfl, h2, h⟩ := fits_cons h
  obtain ⟨x3, y3, rfl, h3, h⟩ := fits_cons h
  obtain rfl := fits_nil h
  obtain ⟨n, rfl, _⟩ := fit_int h1
  obtain ⟨m, rfl, _⟩ := fit_int h2
  obtain ⟨a, rfl⟩ := fit_ints h3
  exact ⟨⟨n, m, a⟩, rfl⟩
theorem fit_peeleds {zs : List AV} (h : Fit (.sl shPeeled 3) zs) : ∃ a : Option (List Pd), zs = [ePS a] := by
  rcases fit_rows (fun xs hx => fit_peeled hx) h with rfl | ⟨l, rfl⟩
  · exact ⟨none, rfl⟩
  · exact ⟨some l, rfl⟩
def shSharded : Sh := .st [.int .i64, .sl shPeeled 3, .sl (.int .i64) 1]
theorem fit_sharded {zs : List AV} (h : Fit shSharded zs) : ∃ s, argOf shSharded zs = eSh s := by
  obtain ⟨x1, y1, rfl, h1, h⟩ := fits_cons (fit_st h)
  obtain ⟨x2, y2, rfl, h2, h⟩ := fits_cons h
  obtain ⟨x3, y3, rfl, h3, h⟩ := fits_cons h
  obtain rfl := fits_nil h
  obtain ⟨n, rfl, _⟩ := fit_int h1
  obtain ⟨m, rfl⟩ := fit_peeleds h2
  obtain ⟨a, rfl⟩ := fit_ints h3
  exact ⟨⟨n, m, a⟩, rfl⟩

theorem szv_le {left : Int} {w : Nat} (h : 0 ≤ szv left w) : szv left w ≤ left := by
  unfold szv at h ⊢
  split <;> omega
def sh_FnExactIsShardedFor : List Sh := [shSharded, .sl .str 1]
theorem eqSh_cp4 (s : Sh_) : (decide ((cpSh s).seed = (cpSh s).seed) && (samePS (lP (cpSh s).parts) (lP (cpSh s).parts) && decide (lI (cpSh s).offs = lI (cpSh s).offs))) = true := by
  simp [cpSh, lP, samePS_cp]
theorem law_FnExactIsShardedFor (ys : List AV) (hy : ArgsFit sh_FnExactIsShardedFor ys) : Call Try.prog 7 ys [] Nowhere (fun x _ => x = .bool true) := by
  obtain ⟨x1, y1, rfl, h1, hy⟩ := argsFit_cons hy
  obtain ⟨x2, y2, rfl, h2, hy⟩ := argsFit_cons hy
  obtain rfl := argsFit_nil hy
  obtain ⟨s, he⟩ := fit_sharded h1
  obtain ⟨keys, hke⟩ := fit_strs h2
  subst hke
  rw [he]
  refine (?_ : ∀ h, Call Try.prog 7 [eSh s, eS keys] h Nowhere (fun x _ => x = .bool true)) []
  intro h
  refine enter (by kernel_rfl) e7 (by kernel_rfl) rfl fun hok => ?_
  simp only [r7, initEnv_2]
  (try (simp (disch := first | omega | (simp <;> omega) | fail) only [push_cast, ↓reduceIte, Nat.reduceEqDiff, Nat.reduceAdd, Nat.reduceMul, Nat.reduceSub, Nat.reduceLT, Int.reduceToNat]))
  refine (c_laws_szSharded s 1048576 (by omega) (by omega)).call ?_
  (try (simp (disch := first | omega | (simp <;> omega) | fail) only [push_cast, ↓reduceIte, Nat.reduceEqDiff, Nat.reduceAdd, Nat.reduceMul, Nat.reduceSub, Nat.reduceLT, Int.reduceToNat]))
  first | refine goC_split (fun hd => ?_) (fun hd => ?_) | refine cnd_split (fun hd => ?_) (fun hd => ?_)
  · (try (simp only [decide_eq_true_eq, decide_eq_false_iff_not, Bool.not_eq_true', Bool.not_eq_false', Bool.and_eq_true, Bool.or_eq_true, Int.not_lt, Int.not_le] at hd)); (try (simp (disch := first | omega | (simp <;> omega) | fail) only [push_cast, ↓reduceIte, Nat.reduceEqDiff, Nat.reduceAdd, Nat.reduceMul, Nat.reduceSub, Nat.reduceLT, Int.reduceToNat]))
  (try (simp only [decide_eq_true_eq, decide_eq_false_iff_not, Bool.not_eq_true', Bool.not_eq_false', Bool.and_eq_true, Bool.or_eq_true, Int.not_lt, Int.not_le] at hd)); (try (simp (disch := first | omega | (simp <;> omega) | fail) only [push_cast, ↓reduceIte, Nat.reduceEqDiff, Nat.reduceAdd, Nat.reduceMul, Nat.reduceSub, Nat.reduceLT, Int.reduceToNat]))
  have hw := szv_ok hd
  have hw2 : wSh s ≤ 1048576 := by omega
  have hw4 := szv_le (w := wSh s) (left := 1048576) hd
  (try (simp (disch := first | omega | (simp <;> omega) | fail) only [push_cast, ↓reduceIte, Nat.reduceEqDiff, Nat.reduceAdd, Nat.reduceMul, Nat.reduceSub, Nat.reduceLT, Int.reduceToNat]))
  refine (c_laws_szStringS keys _ (by omega) (by omega)).call ?_
  (try (simp (disch := first | omega | (simp <;> omega) | fail) only [push_cast, ↓reduceIte, Nat.reduceEqDiff, Nat.reduceAdd, Nat.reduceMul, Nat.reduceSub, Nat.reduceLT, Int.reduceToNat]))
  first | refine goC_split (fun hc => ?_) (fun hc => ?_) | refine cnd_split (fun hc => ?_) (fun hc => ?_)
  · (try (simp only [decide_eq_true_eq, decide_eq_false_iff_not, Bool.not_eq_true', Bool.not_eq_false', Bool.and_eq_true, Bool.or_eq_true, Int.not_lt, Int.not_le] at hc)); (try (simp (disch := first | omega | (simp <;> omega) | fail) only [push_cast, ↓reduceIte, Nat.reduceEqDiff, Nat.reduceAdd, Nat.reduceMul, Nat.reduceSub, Nat.reduceLT, Int.reduceToNat]))
  (try (simp only [decide_eq_true_eq, decide_eq_false_iff_not, Bool.not_eq_true', Bool.not_eq_false', Bool.and_eq_true, Bool.or_eq_true, Int.not_lt, Int.not_le] at hc)); (try (simp (disch := first | omega | (simp <;> omega) | fail) only [push_cast, ↓reduceIte, Nat.reduceEqDiff, Nat.reduceAdd, Nat.reduceMul, Nat.reduceSub, Nat.reduceLT, Int.reduceToNat]))
  have hw3 := szv_ok hc
  have hl : (lS keys).length ≤ 1048576 := by unfold wS at hw3; omega
  refine (c_laws_toSharded s hw2).call ?_
  (try (simp (disch := first | omega | (simp <;> omega) | fail) only [push_cast, ↓reduceIte, Nat.reduceEqDiff, Nat.reduceAdd, Nat.reduceMul, Nat.reduceSub, Nat.reduceLT, Int.reduceToNat]))
  refine (c_laws_toStringS keys hl).call ?_
  (try (simp (disch := first | omega | (simp <;> omega) | fail) only [push_cast, ↓reduceIte, Nat.reduceEqDiff, Nat.reduceAdd, Nat.reduceMul, Nat.reduceSub, Nat.reduceLT, Int.reduceToNat]))
  refine (c_spec_IsShardedFor (cpSh s) (some (lS keys))).call ?_
  have hv : ∃ n b, shForV (cpSh s) (lS (some (lS keys))) = .tup [.bool n, .bool b] := by
    unfold shForV
    split <;> exact ⟨_, _, rfl⟩
  obtain ⟨n, b, hv⟩ := hv
  rw [hv]
  (try (simp (disch := first | omega | (simp <;> omega) | fail) only [push_cast, ↓reduceIte, Nat.reduceEqDiff, Nat.reduceAdd, Nat.reduceMul, Nat.reduceSub, Nat.reduceLT, Int.reduceToNat]))
  refine (c_laws_toSharded s hw2).call ?_
  (try (simp (disch := first | omega | (simp <;> omega) | fail) only [push_cast, ↓reduceIte, Nat.reduceEqDiff, Nat.reduceAdd, Nat.reduceMul, Nat.reduceSub, Nat.reduceLT, Int.reduceToNat]))
  refine (c_laws_toStringS keys hl).call ?_
  (try (simp (disch := first | omega | (simp <;> omega) | fail) only [push_cast, ↓reduceIte, Nat.reduceEqDiff, Nat.reduceAdd, Nat.reduceMul, Nat.reduceSub, Nat.reduceLT, Int.reduceToNat]))
  refine (c_impl_IsShardedFor (cpSh s) (some (lS keys))).call ?_
  rw [hv]
  cases n <;> cases b
  all_goals
    (try (simp (disch := first | omega | (simp <;> omega) | fail) only [push_cast, ↓reduceIte, Nat.reduceEqDiff, Nat.reduceAdd, Nat.reduceMul, Nat.reduceSub, Nat.reduceLT, Int.reduceToNat]))
    refine (c_laws_toSharded s hw2).call ?_
    (try (simp (disch := first | omega | (simp <;> omega) | fail) only [push_cast, ↓reduceIte, Nat.reduceEqDiff, Nat.reduceAdd, Nat.reduceMul, Nat.reduceSub, Nat.reduceLT, Int.reduceToNat]))
    refine (c_laws_eqSharded (cpSh s) (cpSh s)).call ?_
    rw [eqSh_cp4]
    (try (simp (disch := first | omega | (simp <;> omega) | fail) only [push_cast, ↓reduceIte, Nat.reduceEqDiff, Nat.reduceAdd, Nat.reduceMul, Nat.reduceSub, Nat.reduceLT, Int.reduceToNat]))
    refine (c_laws_toStringS keys hl).call ?_
    (try (simp (disch := first | omega | (simp <;> omega) | fail) only [push_cast, ↓reduceIte, Nat.reduceEqDiff, Nat.reduceAdd, Nat.reduceMul, Nat.reduceSub, Nat.reduceLT, Int.reduceToNat]))
    refine (c_laws_eqStringS (some (lS keys)) (some (lS keys))).call ?_
    (try (simp (disch := first | omega | (simp <;> omega) | fail) only [push_cast, ↓reduceIte, Nat.reduceEqDiff, Nat.reduceAdd, Nat.reduceMul, Nat.reduceSub, Nat.reduceLT, Int.reduceToNat]))
    all_goals (try simp)

end Go.Proofs.Ytmcfkedagmfhcaa.M
