/-
  What the functions return.
-/
import Derived.Test.YtjfgmimgmapeeaaGreatFyb
import Derived.Test.YtjfgmimgmapeeaaGreatCya
namespace Go.Proofs.YtjfgmimgmapeeaaGreat.M
open Go Go.RowKit
set_option linter.unusedVariables false
set_option linter.unusedSimpArgs false
set_option maxRecDepth 4000

--eng eB cB
structure Bt where
  size : Int
  words : Option (List Int)
  deriving Inhabited
def cB (b : Bt) : List AV := [.int .i64 b.size, eI b.words]
theorem cB_len (b : Bt) : (cB b).length = 2 := rfl
def eB (b : Bt) : AV := .agg (cB b)
theorem free_cB {b : Bt} : ∀ c ∈ cB b, Free c := free_cons_ free_int (free_cons_ free_eI free_nil_)
theorem free_eB {b : Bt} : Free (eB b) := free_agg free_cB
/-- The last word has no bit behind the size. -/
def lastOk (size : Int) (ws : List Int) : Bool := decide (size % 16 = 0) || decide (Int.fdiv (ws.getD (ws.length - 1) 0) (2 ^ (min (size % 16).toNat IntKind.i64.bits)) = 0)
def okWords (ws : List Int) : Bool := ws.all fun w => decide (0 ≤ w) && decide (w ≤ 65535)
def okBt (b : Bt) : Bool := (decide (0 ≤ b.size) && decide (b.size ≤ 4096)) && (decide (((lI b.words).length : Int) = (b.size + 15) / 16) && (okWords (lI b.words) && lastOk b.size (lI b.words)))
attribute [push_cast] eB cB
--eng lenA_eBS iaddr_eBS ld_B get_B0 get_B1 cellsOf_eBS one_eBS
def eBS : Option (List Bt) → AV
  | none => .nils
  | some l => .ro 2 (l.flatMap cB) l.length
def lB : Option (List Bt) → List Bt
  | none => []
  | some l => l
theorem lenA_eBS {l : Option (List Bt)} : lenA (eBS l) = some (.int .i64 (lB l).length) := by cases l <;> rfl
theorem iaddr_eBS {l : Option (List Bt)} {k : IntKind} {n : Int} (h1 : 0 ≤ n) (h2 : n < (lB l).length) : iaddrA 2 (eBS l) (.int k n) = some (.rad ((lB l).flatMap cB) (n.toNat * 2)) := by
  cases l with
  | none => simp [lB] at h2; omega
  | some l => exact iaddrA_ro h1 h2
theorem ld_B {l : List Bt} {i : Nat} (hi : i < l.length) : ld true 2 (l.flatMap cB) (i * 2) = some (.agg (cB (l.getD i default))) := ld_row cB_len default hi
theorem get_B0 {l : List Bt} {i : Nat} (hi : i < l.length) : (l.flatMap cB)[i * 2]? = some (.int .i64 (l.getD i default).size) := flatMap_get cB_len default (k := 0) hi (by omega)
theorem get_B1 {l : List Bt} {i : Nat} (hi : i < l.length) : (l.flatMap cB)[i * 2 + 1]? = some (eI (l.getD i default).words) := flatMap_get cB_len default (k := 1) hi (by omega)
theorem one_eBS {l : Option (List Bt)} : one (eBS l) = true := by cases l <;> rfl
theorem cellsOf_eBS {l : Option (List Bt)} : cellsOf (eBS l) = [eBS l] := by cases l <;> rfl
theorem free_eBS {l : Option (List Bt)} : Free (eBS l) := by
  cases l with
  | none => exact free_nils
  | some l => exact free_ro (fun c hc => by obtain ⟨p, _, hp⟩ := List.mem_flatMap.1 hc; exact free_cB c hp)
theorem ok_eBS {l : Option (List Bt)} (h : OkV (eBS l)) : (lB l).length ≤ 9223372036854775807 := by
  cases l with
  | none => simp [lB]
  | some l => exact h.ro.1
attribute [push_cast] lenA_eBS iaddr_eBS ld_B get_B0 get_B1 cellsOf_eBS one_eBS
def eO : Option (List Bool) → AV
  | none => .nils
  | some l => .ro 1 (l.map .bool) l.length
def lO : Option (List Bool) → List Bool
  | none => []
  | some l => l
theorem lenA_eO {l : Option (List Bool)} : lenA (eO l) = some (.int .i64 (lO l).length) := by cases l <;> rfl
theorem iaddr_eO {l : Option (List Bool)} {k : IntKind} {n : Int} (h1 : 0 ≤ n) (h2 : n < (lO l).length) : iaddrA 1 (eO l) (.int k n) = some (.rad ((lO l).map .bool) n.toNat) := by
  cases l with
  | none => simp [lO] at h2; omega
  | some l => exact (iaddrA_ro h1 h2).trans (by simp [lO])
theorem get_O {l : List Bool} {i : Nat} (hi : i < l.length) : (l.map AV.bool)[i]? = some (.bool (l.getD i false)) := by simp [hi]
theorem one_eO {l : Option (List Bool)} : one (eO l) = true := by cases l <;> rfl
theorem cellsOf_eO {l : Option (List Bool)} : cellsOf (eO l) = [eO l] := by cases l <;> rfl
theorem free_eO {l : Option (List Bool)} : Free (eO l) := by
  cases l with
  | none => exact free_nils
  | some l => exact free_ro (free_map_ fun _ => free_bool)
attribute [push_cast] lenA_eO iaddr_eO get_O one_eO cellsOf_eO
--eng eSy
structure Sy where
  size : Int
  rows : Option (List Bt)
  right : Option (List Bool)
def eSy (s : Sy) : AV := .agg [.int .i64 s.size, eBS s.rows, eO s.right]
theorem free_eSy {s : Sy} : Free (eSy s) := free_agg (free_cons_ free_int (free_cons_ free_eBS (free_cons_ free_eO free_nil_)))
attribute [push_cast] eSy
def okRow (n : Int) (r : Bt) : Bool := okBt r && decide (r.size = n)
def okSy (s : Sy) : Bool := (decide (1 ≤ s.size) && decide (s.size ≤ 72)) && (decide (((lB s.rows).length : Int) ≤ 40) && (decide (((lO s.right).length : Int) = (lB s.rows).length) && (lB s.rows).all (okRow s.size)))
theorem rows_take {f : Bt → Bool} {l : List Bt} {i : Nat} (hi : i < l.length) : (l.take (i + 1)).all f = ((l.take i).all f && f (l.getD i default)) := by
  rw [List.take_add_one, List.all_append]
  simp [hi]
theorem rows_no {f : Bt → Bool} {l : List Bt} {i : Nat} (hi : i < l.length) (hf : f (l.getD i default) = false) : l.all f = false := by
  rw [List.all_eq_false]
  exact ⟨l.getD i default, by simp [hi], by rw [hf]; simp⟩

def risFrom (l : List Int) (lo hi : Int) : Nat → Bool
  | 0 => true
  | i + 1 => risFrom l lo hi i && ((decide (lo ≤ l.getD i 0) && decide (l.getD i 0 ≤ hi)) && (decide (i = 0) || decide (l.getD (i - 1) 0 < l.getD i 0)))
theorem risFrom_false {l : List Int} {lo hi : Int} {i : Nat} : ∀ {j}, i ≤ j → risFrom l lo hi i = false → risFrom l lo hi j = false
  | 0, h, hf => by
    rw [show i = 0 by omega] at hf
    exact hf
  | j + 1, h, hf => by
    by_cases hi2 : i = j + 1
    · rw [← hi2]
      exact hf
    · simp [risFrom, risFrom_false (show i ≤ j by omega) hf]
theorem risFrom_get {l : List Int} {lo hi : Int} : ∀ {n}, risFrom l lo hi n = true → ∀ i, i < n → lo ≤ l.getD i 0 ∧ l.getD i 0 ≤ hi
  | 0, _, i, h => by omega
  | n + 1, hr, i, h => by
    simp only [risFrom, Bool.and_eq_true, decide_eq_true_eq] at hr
    by_cases hin : i = n
    · subst hin
      exact hr.2.1
    · exact risFrom_get hr.1 i (by omega)

theorem at_word {B m i : Nat} {ws : List Int} (hw : ws = wordsN B m) (hi : i < 16 * m) : decide (bitsI .and .i64 (Int.fdiv (ws.getD ((i : Int) / 16).toNat 0) (2 ^ (min ((i : Int) % 16).toNat IntKind.i64.bits))) 1 = 1) = B.testBit i := by
  have e1 : ((i : Int) / 16).toNat = i / 16 := by omega
  have e2 : ((i : Int) % 16).toNat = i % 16 := by omega
  rw [hw, e1, e2, wordsN_get (by omega), at_bit wordN_lt (by omega), wordN_bit (by omega)]
  congr 1
  omega

/-- Bits of the call's own, as they are seen. -/
theorem vw_B {h : H} {n0 b len : Nat} {n : Int} {ws : List Int} (hb : n0 ≤ b) (hc : h.cells b = some (ws.map (.int .i64))) (hl : ws.length = len) : Vw h n0 (.agg [.int .i64 n, .sl b 0 1 len len]) (eB ⟨n, some ws⟩) := by
  subst hl
  refine .agg rfl (fun i y t hy ht => ?_)
  rcases i with _ | _ | i
  · simp [cB] at hy ht
    subst hy ht
    exact .free free_int
  · simp [cB, eI] at hy ht
    subst hy ht
    exact vw_all (cs := ws.map (.int .i64)) hb hc (by simp) (one_map fun _ => rfl) (free_map_ fun _ => free_int)
  · simp at hy
/-- Bits of the call's own, as a tree. -/
theorem ow_B {h : H} {b len : Nat} {n : Int} {ws : List Int} {G : Nat → Prop} (hb : G b) (hc : h.cells b = some (ws.map (.int .i64))) (hl : ws.length = len) : Ow h [.agg [.int .i64 n, .sl b 0 1 len len]] [eB ⟨n, some ws⟩] G := by
  subst hl
  refine Ow.aggOf (ts := cB ⟨n, some ws⟩) (.atom rfl ?_)
  exact ow_map (f := AV.int .i64) (fun _ => rfl) hc rfl hb
def BnI (h h' : H) (n : Int) (m : Nat) (x : AV) : Prop := ∃ b, x = .agg [.int .i64 n, .sl b 0 1 m m] ∧ h.length ≤ b ∧ (∃ p, h' = h ++ p) ∧ h'.cells b = some ((wordsN 0 m).map (.int .i64))
theorem rep_words {m : Nat} : List.replicate m (AV.int .i64 0) = (wordsN 0 m).map (.int .i64) := by
  rw [wordsN_zero]
  simp
def leadI (n B : Nat) : Int := if lead n B < n then (lead n B : Int) else -1
theorem noBit_all {B n : Nat} (h : noBit B n = true) {j : Nat} (hj : j < n) : B.testBit j = false := by
  unfold noBit at h
  have := List.all_eq_true.1 h j (List.mem_range.2 hj)
  simpa using this

theorem okBt_num {b : Bt} (h : okBt b = true) : lI b.words = wordsN (numW (lI b.words)) (lI b.words).length ∧ 0 ≤ b.size ∧ b.size ≤ 4096 ∧ ((lI b.words).length : Int) = (b.size + 15) / 16 := by
  simp only [okBt, okWords, Bool.and_eq_true, decide_eq_true_eq, List.all_eq_true] at h
  exact ⟨(wordsN_num h.2.2.1).symm, h.1.1, h.1.2, h.2.1⟩

def rowB (s : Sy) (i : Nat) : Nat := numW (lI ((lB s.rows).getD i default).words)
def sumB (s : Sy) (l : List Int) : Nat := l.foldl (fun B i => B ^^^ rowB s i.toNat) 0
def sumR (s : Sy) (l : List Int) : Bool := l.foldl (fun r i => r != (lO s.right).getD i.toNat false) false
theorem sumB_take {s : Sy} {l : List Int} {i : Nat} (hi : i < l.length) : sumB s (l.take (i + 1)) = sumB s (l.take i) ^^^ rowB s (l.getD i 0).toNat := by
  unfold sumB
  rw [List.take_add_one, List.foldl_append]
  simp [hi]
theorem sumR_take {s : Sy} {l : List Int} {i : Nat} (hi : i < l.length) : sumR s (l.take (i + 1)) = (sumR s (l.take i) != (lO s.right).getD (l.getD i 0).toNat false) := by
  unfold sumR
  rw [List.take_add_one, List.foldl_append]
  simp [hi]
def refSum (s : Sy) (l : List Int) : Bool := sumR s l && noBit (sumB s l) s.size.toNat
def refV (s : Sy) (l : List Int) : AV := if okSy s then (if risFrom l 0 (((lB s.rows).length : Int) - 1) l.length then .tup [.bool (refSum s l), .bool true] else .tup [.bool false, .bool true]) else .tup [.bool false, .bool false]
theorem refV_tup {s : Sy} {l : List Int} : ∃ a b, refV s l = .tup [.bool a, .bool b] := by
  unfold refV
  split
  · split <;> exact ⟨_, _, rfl⟩
  · exact ⟨_, _, rfl⟩
theorem free_refV {s : Sy} {l : List Int} : Free (refV s l) := by
  obtain ⟨a, b, h⟩ := refV_tup (s := s) (l := l)
  rw [h]
  exact free_tup (free_cons_ free_bool (free_cons_ free_bool free_nil_))
structure OkS (s : Sy) (n m : Nat) : Prop where
  sz : s.size = (n : Int)
  n1 : 1 ≤ n
  n2 : n ≤ 72
  hm : (((n : Int) + 15) / 16) = (m : Int)
  nr : (lB s.rows).length ≤ 40
  lr : (lO s.right).length = (lB s.rows).length
  w : ∀ i, i < (lB s.rows).length → lI ((lB s.rows).getD i default).words = wordsN (rowB s i) m ∧ ((lB s.rows).getD i default).size = (n : Int)
theorem okS_of {s : Sy} (h : okSy s = true) : ∃ n m, OkS s n m := by
  simp only [okSy, Bool.and_eq_true, decide_eq_true_eq] at h
  obtain ⟨⟨h1, h2⟩, h3, h4, h5⟩ := h
  obtain ⟨n, hn⟩ : ∃ n : Nat, s.size = (n : Int) := ⟨s.size.toNat, by omega⟩
  refine ⟨n, (n + 15) / 16, hn, by omega, by omega, by omega, by omega, by omega, fun i hi => ?_⟩
  have hr := List.all_eq_true.1 h5 ((lB s.rows).getD i default) (by simp [hi])
  simp only [okRow, Bool.and_eq_true, decide_eq_true_eq] at hr
  obtain ⟨q1, q2, q3, q4⟩ := okBt_num hr.1
  have hm : (lI ((lB s.rows).getD i default).words).length = (n + 15) / 16 := by omega
  refine ⟨?_, by omega⟩
  unfold rowB
  rw [← hm]
  exact q1
/-- The sum so far, in the block behind the system's. -/
def SrI (h h' : H) (s : Sy) (n m : Nat) (l : List Int) : Prop :=
  h.length + 1 < h'.length ∧ h'.cells h.length = some [.int .i64 n, eBS s.rows, eO s.right] ∧
  ∃ ws X, lI ws = wordsN X m ∧ h'.cells (h.length + 1) = some [.int .i64 n, eI ws, .bool (sumR s l), .nils] ∧ ∀ j, j < n → X.testBit j = (sumB s l).testBit j
theorem SrI.put {h h' : H} {s : Sy} {n m i : Nat} {l : List Int} {X Bi : Nat} (hs : SrI h h' s n m (l.take i)) (hi : i < l.length) (hX : ∀ j, j < n → X.testBit j = (sumB s (l.take i)).testBit j) (hB : Bi = rowB s (l.getD i 0).toNat) :
    SrI h (wr h' (h.length + 1) [.int .i64 n, eI (some (wordsN ((X ^^^ Bi) % 2 ^ n) m)), .bool (sumR s (l.take i) != (lO s.right).getD (l.getD i 0).toNat false), .nils]) s n m (l.take (i + 1)) := by
  obtain ⟨s1, s2, _⟩ := hs
  refine ⟨by simpa [wr] using s1, ?_, some (wordsN ((X ^^^ Bi) % 2 ^ n) m), (X ^^^ Bi) % 2 ^ n, rfl, ?_, fun j hj => ?_⟩
  · rw [cells_eq]
    unfold wr
    rw [List.getElem?_set_ne (by omega), ← cells_eq]
    exact s2
  · rw [cells_wr2 s1, sumR_take hi]
  · rw [Nat.testBit_mod_two_pow, Nat.testBit_xor, sumB_take hi, Nat.testBit_xor, hX j hj, hB]
    simp [hj]

def cLn (n m X : Nat) : List AV := [.int .i64 n, eI (some (wordsN (X % 2 ^ n) m)), .bool (X.testBit n), eI (optL (setL (X >>> (n + 1))))]
theorem cLn_len (n m X : Nat) : (cLn n m X).length = 4 := rfl
theorem free_cLn {n m X : Nat} : ∀ c ∈ cLn n m X, Free c := free_cons_ free_int (free_cons_ free_eI (free_cons_ free_bool (free_cons_ free_eI free_nil_)))
theorem xor_mod {X Y n : Nat} : (X % 2 ^ n ^^^ Y % 2 ^ n) % 2 ^ n = (X ^^^ Y) % 2 ^ n := by
  refine Nat.eq_of_testBit_eq fun j => ?_
  simp only [Nat.testBit_mod_two_pow, Nat.testBit_xor]
  by_cases hj : j < n <;> simp [hj]
/-- The list so far: of the first so many of one, those that are not in the other. -/
def InUpTo (Mo : Nat) (f : Nat → Bool) (l : List Int) (g : Nat → Bool) : Prop := ∀ j, j < 64 → Mo.testBit j = (f j || (decide ((j : Int) ∈ l) && !g j))
theorem InUpTo.step {Mo i : Nat} {f g : Nat → Bool} {l : List Int} {k : Nat} (h : InUpTo Mo f (l.take k) g) (hk : k < l.length) (hg : l.getD k 0 = (i : Int)) : InUpTo (if g i then Mo else Mo ||| 2 ^ i) f (l.take (k + 1)) g := by
  intro j hj
  have htk : l.take (k + 1) = l.take k ++ [(i : Int)] := by
    rw [List.take_add_one, ← hg]
    simp [hk]
  rw [htk]
  have hmem : decide ((j : Int) ∈ l.take k ++ [(i : Int)]) = (decide ((j : Int) ∈ l.take k) || decide (j = i)) := by
    rw [← Bool.decide_or, decide_eq_decide, List.mem_append, List.mem_singleton]
    constructor
    · rintro (h | h)
      · exact .inl h
      · exact .inr (by omega)
    · rintro (h | h)
      · exact .inl h
      · exact .inr (by omega)
  rw [hmem]
  cases hgi : g i
  · rw [if_neg (by simp), Nat.testBit_or, Nat.testBit_two_pow, h j hj]
    by_cases hji : j = i
    · subst hji
      simp [hgi]
    · simp [hji, Ne.symm hji]
  · rw [if_pos rfl, h j hj]
    by_cases hji : j = i
    · subst hji
      simp [hgi]
    · simp [hji]
theorem InUpTo.zero {f g : Nat → Bool} {Mo : Nat} {l : List Int} (h : ∀ j, j < 64 → Mo.testBit j = f j) : InUpTo Mo f (l.take 0) g := fun j hj => by
  rw [h j hj]
  simp
theorem InUpTo.bits {Mo M : Nat} {f g : Nat → Bool} (h : InUpTo Mo f (setL M) g) {j : Nat} (hj : j < 64) : Mo.testBit j = (f j || (M.testBit j && !g j)) := by
  rw [h j hj]
  congr 2
  rw [Bool.eq_iff_iff, decide_eq_true_iff]
  exact mem_setL hj
theorem hasL {M i : Nat} (hi : i < 64) : decide ((i : Int) ∈ setL M) = M.testBit i := by
  rw [Bool.eq_iff_iff, decide_eq_true_iff]
  exact mem_setL hi
attribute [simp] lI_optL
def linesO (h : H) (n : Nat) (wa wb wo : Option (List Int)) (ra rb q : Bool) (Ma Mb Mo : Nat) : H :=
  h ++ [some (.cells [.int .i64 n, eI wa, .bool ra, eM Ma]), some (.cells [.int .i64 n, eI wb, .bool rb, eM Mb]), some (.cells [.int .i64 0, .nils, .bool false, .nils]), some (.cells [.int .i64 n, eI wo, .bool q, eM Mo])]

def eLs (n m : Nat) : Option (List Nat) → AV
  | none => .nils
  | some l => .ro 4 (l.flatMap (cLn n m)) l.length
def lL : Option (List Nat) → List Nat
  | none => []
  | some l => l
theorem lenA_eLs {n m : Nat} {l : Option (List Nat)} : lenA (eLs n m l) = some (.int .i64 (lL l).length) := by cases l <;> rfl
theorem iaddr_eLs {n m : Nat} {l : Option (List Nat)} {k : IntKind} {i : Int} (h1 : 0 ≤ i) (h2 : i < (lL l).length) : iaddrA 4 (eLs n m l) (.int k i) = some (.rad ((lL l).flatMap (cLn n m)) (i.toNat * 4)) := by
  cases l with
  | none => simp [lL] at h2; omega
  | some l => exact iaddrA_ro h1 h2
theorem ld_Ln {n m : Nat} {l : List Nat} {i : Nat} (hi : i < l.length) : ld true 4 (l.flatMap (cLn n m)) (i * 4) = some (.agg (cLn n m (l.getD i 0))) := ld_row (cLn_len n m) 0 hi
theorem lead_mod {n X : Nat} : lead n (X % 2 ^ n) = lead n X := lead_congr fun j hj => by rw [Nat.testBit_mod_two_pow]; simp [hj]
theorem leadI_mod {n X : Nat} : leadI n (X % 2 ^ n) = leadI n X := by
  unfold leadI
  rw [lead_mod]
theorem Nat.testBit_xor_ {X Y n : Nat} : (X ^^^ Y).testBit n = (X.testBit n != Y.testBit n) := by
  rw [Nat.testBit_xor]
/-- The line being reduced, in its box. -/
def RdI (h h' : H) (n m X : Nat) : Prop := h.length + 1 < h'.length ∧ h'.cells h.length = some [.int .i64 n, eI (some (wordsN (X % 2 ^ n) m)), .bool (X.testBit n), eI (optL (setL (X >>> (n + 1))))] ∧ h'.cells (h.length + 1) = some [.int .i64 0, .nils, .bool false, .nils] ∧ ∀ b, b < h.length → h'[b]? = h[b]?
theorem RdI.app {h h' l : H} {n m X : Nat} (hr : RdI h h' n m X) : RdI h (h' ++ l) n m X := ⟨by have := hr.1; simp; omega, cells_app hr.2.1, cells_app hr.2.2.1, fun b hb => by rw [List.getElem?_append_left (by have := hr.1; omega)]; exact hr.2.2.2 b hb⟩
theorem RdI.put {h h' : H} {n m X Y : Nat} (hr : RdI h h' n m X) : RdI h (wr h' h.length [.int .i64 n, eI (some (wordsN (Y % 2 ^ n) m)), .bool (Y.testBit n), eI (optL (setL (Y >>> (n + 1))))]) n m Y := by
  obtain ⟨h1, h2, h3, h4⟩ := hr
  refine ⟨by simpa [wr] using h1, cells_wr2 (by omega), ?_, fun b hb => ?_⟩
  · rw [cells_eq]
    unfold wr
    rw [List.getElem?_set_ne (by omega), ← cells_eq]
    exact h3
  · unfold wr
    rw [List.getElem?_set_ne (by omega)]
    exact h4 b hb
theorem cells_same {h h' : H} {b : Nat} {cs : List AV} (hc : h.cells b = some cs) (hk : ∀ b, b < h.length → h'[b]? = h[b]?) : h'.cells b = some cs := by
  rw [cells_eq, hk b (cells_lt hc), ← cells_eq]
  exact hc

theorem Sp.lt {L : List Nat} {k : Nat} (h : ∀ x ∈ L, x < 2 ^ k) {v : Nat} (hv : Sp L v) : v < 2 ^ k := by
  induction hv with
  | zero => exact Nat.two_pow_pos k
  | add _ hx ih => exact Nat.xor_lt_two_pow ih (h _ hx)
theorem numW_lt2 {r : Nat} : ∀ {ws : List Int}, (∀ w ∈ ws, 0 ≤ w ∧ w ≤ 65535) → ws ≠ [] → (ws.getD (ws.length - 1) 0).toNat < 2 ^ r → numW ws < 2 ^ (16 * (ws.length - 1) + r)
  | [], _, h, _ => absurd rfl h
  | [w], _, _, hl => by simpa [numW] using hl
  | w :: w2 :: ws, h, _, hl => by
    have ih := numW_lt2 (r := r) (ws := w2 :: ws) (fun x hx => h x (List.mem_cons_of_mem _ hx)) (by simp) (by simpa using hl)
    have h0 := h w (by simp)
    rw [numW]
    have e : 16 * ((w :: w2 :: ws).length - 1) + r = (16 * ((w2 :: ws).length - 1) + r) + 16 := by simp; omega
    rw [e, Nat.pow_add]
    generalize 2 ^ (16 * ((w2 :: ws).length - 1) + r) = t at ih ⊢
    rw [show (2 : Nat) ^ 16 = 65536 from rfl]
    omega
theorem okRow_lt {b : Bt} {n : Nat} (h : okRow (n : Int) b = true) (hn : 1 ≤ n) (hn2 : n ≤ 72) : numW (lI b.words) < 2 ^ n := by
  simp only [okRow, okBt, okWords, lastOk, Bool.and_eq_true, Bool.or_eq_true, decide_eq_true_eq, List.all_eq_true] at h
  obtain ⟨⟨⟨h1, h2⟩, h3, h4, h5⟩, h6⟩ := h
  rw [h6] at h3 h5
  rcases h5 with h5 | h5
  · have := numW_lt h4
    have e : 16 * (lI b.words).length = n := by omega
    rwa [e] at this
  · by_cases hz : (n : Int) % 16 = 0
    · have := numW_lt h4
      have e : 16 * (lI b.words).length = n := by omega
      rwa [e] at this
    · have hne : lI b.words ≠ [] := fun h0 => by
        rw [h0] at h3
        simp at h3
        omega
      have hlen : 0 < (lI b.words).length := List.length_pos_iff.2 hne
      have hmem := h4 ((lI b.words).getD ((lI b.words).length - 1) 0) (by
        rw [List.getD_eq_getElem?_getD, List.getElem?_eq_getElem (by omega)]
        exact List.getElem_mem _)
      have hr : min ((n : Int) % 16).toNat IntKind.i64.bits = n % 16 := by
        simp [IntKind.bits]
        omega
      rw [hr] at h5
      obtain ⟨x, hx⟩ : ∃ x : Nat, (lI b.words).getD ((lI b.words).length - 1) 0 = (x : Int) := ⟨_, (Int.toNat_of_nonneg hmem.1).symm⟩
      rw [hx] at h5
      have hp : ((2 : Int) ^ (n % 16)) = ((2 ^ (n % 16) : Nat) : Int) := by simp
      rw [hp, ← Int.ofNat_fdiv] at h5
      have hdiv : x / 2 ^ (n % 16) = 0 := by exact_mod_cast h5
      have hxl : x < 2 ^ (n % 16) := by
        rcases Nat.lt_or_ge x (2 ^ (n % 16)) with hh | hh
        · exact hh
        · have := Nat.div_pos hh (Nat.two_pow_pos _)
          omega
      have := numW_lt2 (r := n % 16) h4 hne (by rw [hx, Int.toNat_natCast]; exact hxl)
      have e : 16 * ((lI b.words).length - 1) + n % 16 = n := by omega
      rwa [e] at this
structure OkE (s : Sy) (n m : Nat) : Prop extends OkS s n m where
  lt : ∀ i, i < (lB s.rows).length → rowB s i < 2 ^ n
theorem okE_of {s : Sy} (h : okSy s = true) : ∃ n m, OkE s n m := by
  obtain ⟨n, m, ho⟩ := okS_of h
  refine ⟨n, m, ho, fun i hi => ?_⟩
  simp only [okSy, Bool.and_eq_true, decide_eq_true_eq] at h
  obtain ⟨_, _, _, h5⟩ := h
  have hr := List.all_eq_true.1 h5 ((lB s.rows).getD i default) (by simp [hi])
  rw [ho.sz] at hr
  exact okRow_lt hr ho.n1 ho.n2
theorem OkE.some {s : Sy} {n m : Nat} (ho : OkE s n m) {i : Nat} (hi : i < (lB s.rows).length) : ((lB s.rows).getD i default).words = some (wordsN (rowB s i) m) := by
  have hw := (ho.w i hi).1
  have hm := ho.hm
  have h1 := ho.n1
  cases hh : ((lB s.rows).getD i default).words with
  | none =>
    rw [hh] at hw
    have := congrArg List.length hw
    rw [wordsN_len] at this
    simp [lI] at this
    omega
  | some l =>
    rw [hh] at hw
    rw [← hw]
    rfl
/-- A row with its right side and its number, as one number. -/
def rowE (s : Sy) (n i : Nat) : Nat := rowB s i + 2 ^ n * (((lO s.right).getD i false).toNat + 2 * 2 ^ i)
theorem rowE_row {s : Sy} {n i : Nat} (h : rowB s i < 2 ^ n) : rowE s n i % 2 ^ n = rowB s i := by
  unfold rowE
  rw [Nat.add_mul_mod_self_left, Nat.mod_eq_of_lt h]
theorem rowE_div {s : Sy} {n i : Nat} (h : rowB s i < 2 ^ n) : rowE s n i / 2 ^ n = ((lO s.right).getD i false).toNat + 2 * 2 ^ i := by
  unfold rowE
  rw [Nat.add_mul_div_left _ _ (Nat.two_pow_pos n), Nat.div_eq_of_lt h, Nat.zero_add]
theorem rowE_right {s : Sy} {n i : Nat} (h : rowB s i < 2 ^ n) : (rowE s n i).testBit n = (lO s.right).getD i false := by
  rw [Nat.testBit_eq_decide_div_mod_eq, rowE_div h]
  cases (lO s.right).getD i false
  · simp
  · simp
theorem rowE_of {s : Sy} {n i : Nat} (h : rowB s i < 2 ^ n) : rowE s n i >>> (n + 1) = 2 ^ i := by
  rw [Nat.shiftRight_eq_div_pow, Nat.pow_succ, ← Nat.div_div_eq_div_mul, rowE_div h]
  cases (lO s.right).getD i false
  · simp
  · simp
    omega
theorem rowE_bit {s : Sy} {n i : Nat} (h : rowB s i < 2 ^ n) : (rowE s n i).testBit (n + 1 + i) = true := by
  have := Nat.testBit_shiftRight (x := rowE s n i) (i := n + 1) (j := i)
  rw [rowE_of h] at this
  rw [← this]
  simp
theorem rowE_lt {s : Sy} {n i : Nat} (h : rowB s i < 2 ^ n) : rowE s n i < 2 ^ (n + 1 + (i + 1)) := by
  have h1 := rowE_of h
  rw [Nat.shiftRight_eq_div_pow] at h1
  have h2 := Nat.div_add_mod (rowE s n i) (2 ^ (n + 1))
  have h3 := Nat.mod_lt (rowE s n i) (Nat.two_pow_pos (n + 1))
  rw [h1] at h2
  rw [Nat.pow_add]
  have h4 : (2 : Nat) ^ (n + 1) * 2 ^ (i + 1) = 2 ^ (n + 1) * 2 ^ i + 2 ^ (n + 1) * 2 ^ i := by
    rw [Nat.pow_succ 2 i, ← Nat.mul_assoc]
    omega
  have h5 : 2 ^ (n + 1) * 1 ≤ 2 ^ (n + 1) * 2 ^ i := Nat.mul_le_mul_left _ (Nat.one_le_two_pow)
  omega
/-- What is known of the sums' numbers of rows. -/
structure Msk (n i : Nat) (p : List Nat × Nat) : Prop where
  lt : ∀ l ∈ p.1, l < 2 ^ (n + 1 + i)
  some : p.2 ≠ 0 → ∃ j, j < i ∧ p.2.testBit (n + 1 + j) = true
theorem Msk.stepS {n i e : Nat} {p : List Nat × Nat} (h : Msk n i p) (hb : e.testBit (n + 1 + i) = true) (hl : e < 2 ^ (n + 1 + (i + 1))) : Msk n (i + 1) (M.stepS n p e) := by
  obtain ⟨u, hu, hx⟩ := redS_span (n := n) (L := p.1) (x := e)
  have hult := hu.lt h.lt
  have hub : u.testBit (n + 1 + i) = false := Nat.testBit_lt_two_pow hult
  have hpow : (2 : Nat) ^ (n + 1 + i) ≤ 2 ^ (n + 1 + (i + 1)) := Nat.pow_le_pow_right (by decide) (by omega)
  have hxl : redS n p.1 e < 2 ^ (n + 1 + (i + 1)) := by
    rw [hx]
    exact Nat.xor_lt_two_pow hl (by omega)
  have hxb : (redS n p.1 e).testBit (n + 1 + i) = true := by
    rw [hx, Nat.testBit_xor, hb, hub]
    rfl
  have hold : ∀ l ∈ p.1, l < 2 ^ (n + 1 + (i + 1)) := fun l hm => by have := h.lt l hm; omega
  have hs : p.2 ≠ 0 → ∃ j, j < i + 1 ∧ p.2.testBit (n + 1 + j) = true := fun hne => by
    obtain ⟨j, hj, hjb⟩ := h.some hne
    exact ⟨j, by omega, hjb⟩
  unfold M.stepS
  split
  · refine ⟨fun l hm => ?_, hs⟩
    rcases List.mem_append.1 hm with hm | hm
    · exact hold l hm
    · rw [List.mem_singleton.1 hm]
      exact hxl
  · split
    · exact ⟨hold, fun _ => ⟨i, by omega, hxb⟩⟩
    · exact ⟨hold, hs⟩
def stS (s : Sy) (n i : Nat) : List Nat × Nat := ((List.range i).map (rowE s n)).foldl (M.stepS n) ([], 0)
theorem stS_succ {s : Sy} {n i : Nat} : stS s n (i + 1) = M.stepS n (stS s n i) (rowE s n i) := by
  unfold stS
  rw [List.range_succ, List.map_append, List.foldl_append]
  rfl
theorem OkE.msk {s : Sy} {n m : Nat} (ho : OkE s n m) : ∀ {i}, i ≤ (lB s.rows).length → Msk n i (stS s n i)
  | 0, _ => ⟨fun l h => (by cases h), fun h => absurd rfl h⟩
  | i + 1, h => by
    rw [stS_succ]
    have hlt := ho.lt i (by omega)
    exact (ho.msk (i := i) (by omega)).stepS (rowE_bit hlt) (rowE_lt hlt)
theorem stS_len {s : Sy} {n : Nat} : ∀ {i}, (stS s n i).1.length ≤ i
  | 0 => by simp [stS]
  | i + 1 => by
    have := stS_len (s := s) (n := n) (i := i)
    rw [stS_succ]
    unfold M.stepS
    split
    · simp
      omega
    · split <;> simp <;> omega
def optN (l : List Nat) : Option (List Nat) := if l = [] then none else some l
theorem lL_optN {l : List Nat} : lL (optN l) = l := by
  unfold optN
  split
  · rename_i h
    rw [h]
    rfl
  · rfl
theorem setL_pow {i : Nat} (hi : i < 64) : setL (2 ^ i) = [(i : Int)] := by
  have h0 : setL 0 = [] := by
    unfold setL
    simp
  have := (put_setL (M := 0) hi (by simp)).1
  rw [h0, Nat.zero_or] at this
  rw [← this]
  rfl
theorem Msk.none {n i : Nat} {p : List Nat × Nat} (h : Msk n i p) (hi : i ≤ 64) : (setL (p.2 >>> (n + 1))).length = 0 ↔ p.2 = 0 := by
  constructor
  · intro h0
    by_cases hne : p.2 = 0
    · exact hne
    · obtain ⟨j, hj, hb⟩ := h.some hne
      have hm : (j : Int) ∈ setL (p.2 >>> (n + 1)) := (mem_setL (by omega)).2 (by rw [Nat.testBit_shiftRight]; exact hb)
      rw [List.eq_nil_of_length_eq_zero h0] at hm
      cases hm
  · intro h0
    rw [h0]
    simp [setL]
theorem vw_line {g : H} {b i n : Nat} {w : Option (List Int)} {q : Bool} (hc : g.cells b = .some [.int .i64 (i : Int)]) : Vw (filt (fun k => k == b) g) 0 (.agg [.int .i64 n, eI w, .bool q, .sl b 0 1 1 1]) (.agg [.int .i64 n, eI w, .bool q, .ro 1 [.int .i64 (i : Int)] 1]) := by
  refine .agg rfl fun k y t hy ht => ?_
  rcases k with _ | _ | _ | _ | k
  · simp at hy ht
    subst hy ht
    exact .free free_int
  · simp at hy ht
    subst hy ht
    exact .free free_eI
  · simp at hy ht
    subst hy ht
    exact .free free_bool
  · simp at hy ht
    subst hy ht
    exact vw_all (cs := [AV.int .i64 (i : Int)]) (Nat.zero_le _) (by rw [cells_filt (by simp)]; exact hc) (by simp) rfl (free_cons_ free_int free_nil_)
  · simp at hy
theorem eM_zero {k : Nat} : AV.nils = eI (optL (setL (0 >>> k))) := by
  have h0 : setL 0 = [] := by
    unfold setL
    simp
  rw [Nat.zero_shiftRight, h0]
  rfl
theorem filt_at {g0 g l : H} {o : Option AObj} {b : Nat} (hg : g = g0 ++ o :: l) (hb : g0.length = b) : filt (fun k => !(k == b)) g = g0 ++ none :: l := by
  subst hg hb
  exact filt_one
theorem sink_args {g : H} {v : AV} {n m i b E : Nat} {w : Option (List Int)} {q : Bool} (hc : g.cells b = .some [.int .i64 (i : Int)]) (hcl : cLn n m E = [.int .i64 n, eI w, .bool q, .ro 1 [.int .i64 (i : Int)] 1]) :
    ∀ (k : Nat) (x t : AV), [v, AV.agg [.int .i64 n, eI w, .bool q, .sl b 0 1 1 1]][k]? = .some x → [v, AV.agg (cLn n m E)][k]? = .some t → x = t ∨ Vw (filt (fun k => k == b) g) 0 x t := by
  intro k x t hx ht
  rcases k with _ | _ | k
  · simp at hx ht
    exact .inl (hx.symm.trans ht)
  · simp at hx ht
    subst hx ht
    rw [hcl]
    exact .inr (vw_line hc)
  · simp at hx
def linesV (s : Sy) (n m : Nat) : AV := .tup [eLs n m (optN (stS s n (lB s.rows).length).1), eI (optL (setL ((stS s n (lB s.rows).length).2 >>> (n + 1))))]
theorem one_cLn {n m : Nat} {L : List Nat} : (L.flatMap (cLn n m)).all one = true := by
  rw [List.all_eq_true]
  intro c hc
  obtain ⟨X, _, hX⟩ := List.mem_flatMap.1 hc
  revert c
  intro c _ hX
  unfold cLn at hX
  simp only [List.mem_cons, List.not_mem_nil, or_false] at hX
  rcases hX with rfl | rfl | rfl | rfl
  · rfl
  · exact one_eI
  · rfl
  · exact one_eI
theorem S1.vwLs {h : H} {n0 n m : Nat} {v : AV} {L : List Nat} {B : List Nat} (hs : S1 h 4 v L.length (L.flatMap (cLn n m)) B) (hb : ∀ b ∈ B, n0 ≤ b) (hnn : L = [] → v = .nils) : Vw h n0 v (eLs n m (optN L)) := by
  have hvw := hs.vw (ts := L.flatMap (cLn n m)) hb rfl one_cLn (fun i y t hy ht => by
    rw [hy] at ht
    injection ht with ht
    subst ht
    obtain ⟨X, _, hX⟩ := List.mem_flatMap.1 (List.mem_of_getElem? hy)
    exact .free (free_cLn _ hX))
  unfold optN
  by_cases hl : L = []
  · have := hnn hl
    subst this hl
    exact .free free_nils
  · rw [if_neg hl]
    rcases hvw with ⟨h0, _, _⟩ | ⟨_, hv⟩
    · exact absurd (List.eq_nil_of_length_eq_zero h0) hl
    · exact hv
/-- The lines so far: the system in its box, the lines in a slice of the call's own. -/
def LnI (h h' : H) (s : Sy) (n m : Nat) (v : AV) (B : List Nat) (L : List Nat) : Prop :=
  h.length < h'.length ∧ h'.cells h.length = .some [.int .i64 n, eBS s.rows, eO s.right] ∧ S1 h' 4 v L.length (L.flatMap (cLn n m)) B ∧ (∀ b ∈ B, h.length < b) ∧ (L = [] → v = .nils)

/-- What adding one equation to another, of the caller's own, leaves behind. -/
def AdI (h h' : H) (n : Int) (b5 bb m X : Nat) (r : Bool) : Prop :=
  h.length ≤ h'.length ∧ (∀ b', b' < h.length → b' ≠ bb → b' ≠ b5 → h'[b']? = h[b']?) ∧ h'.cells b5 = some [.int .i64 n, .sl bb 0 1 m m, .bool r, .int .u64 0] ∧ h'.cells bb = some ((wordsN X m).map (.int .i64))
theorem cells_fr2 {h h2 : H} {bb c : Nat} {cs : List AV} (hfr : ∀ b', b' ≠ bb → h2[b']? = h[b']?) (hc : h.cells c = some cs) (hne : c ≠ bb) : h2.cells c = some cs := by
  rw [cells_eq, hfr c hne, ← cells_eq]
  exact hc
theorem u64_nat {n : Nat} (h : n < 18446744073709551616) : IntKind.u64.wrap (n : Int) = (n : Int) := by
  simp [IntKind.wrap, IntKind.signed, IntKind.bits]
  omega
theorem bitsI_xor_u64 {x y : Nat} (hx : x < 18446744073709551616) (hy : y < 18446744073709551616) : bitsI .xor .u64 (x : Int) (y : Int) = ((x ^^^ y : Nat) : Int) := by
  have h1 : x ^^^ y < 2 ^ 64 := Nat.xor_lt_two_pow (by omega) (by omega)
  show IntKind.u64.wrap ((BitVec.ofInt 64 (x : Int) ^^^ BitVec.ofInt 64 (y : Int)).toNat : Int) = _
  rw [ofInt_nat, ofInt_nat, BitVec.toNat_xor, BitVec.toNat_ofNat, BitVec.toNat_ofNat, Nat.mod_eq_of_lt (by omega), Nat.mod_eq_of_lt (by omega)]
  exact u64_nat (by omega)

/-- Of which rows it is the sum. -/
def ofN (n X : Nat) : Nat := X >>> (n + 1)
theorem ofN_xor {n X Y : Nat} : ofN n (X ^^^ Y) = ofN n X ^^^ ofN n Y := Nat.shiftRight_xor_distrib
def cEq (n m : Nat) (p : Nat × Nat) : List AV := [.int .i64 n, .sl p.2 0 1 m m, .bool (p.1.testBit n), .int .u64 (ofN n p.1 : Int)]
theorem cEq_len (n m : Nat) (p : Nat × Nat) : (cEq n m p).length = 4 := rfl
def cQ (n m X : Nat) : List AV := [.int .i64 n, eI (some (wordsN (X % 2 ^ n) m)), .bool (X.testBit n), .int .u64 (ofN n X : Int)]
theorem cQ_len (n m X : Nat) : (cQ n m X).length = 4 := rfl
theorem free_cQ {n m X : Nat} : ∀ c ∈ cQ n m X, Free c := free_cons_ free_int (free_cons_ free_eI (free_cons_ free_bool (free_cons_ free_int free_nil_)))
theorem mod_xor {A X n : Nat} : A % 2 ^ n ^^^ X % 2 ^ n = (A ^^^ X) % 2 ^ n := by
  refine Nat.eq_of_testBit_eq fun j => ?_
  simp only [Nat.testBit_mod_two_pow, Nat.testBit_xor]
  cases decide (j < n) <;> simp
/-- Equations of the call's own: the list in its block, the words of each in a block for itself. -/
def EqL (h : H) (n0 n m : Nat) (v : AV) (L : List (Nat × Nat)) (B : List Nat) : Prop :=
  S1 h 4 v L.length (L.flatMap (cEq n m)) B ∧ (∀ b ∈ B, n0 ≤ b) ∧ (∀ p ∈ L, n0 ≤ p.2 ∧ p.2 ∉ B ∧ h.cells p.2 = some ((wordsN (p.1 % 2 ^ n) m).map (.int .i64))) ∧ (L.map (·.2)).Nodup
theorem cells_keep {h h' : H} {b : Nat} {cs : List AV} (hk : h'[b]? = h[b]?) (hc : h.cells b = some cs) : h'.cells b = some cs := by
  rw [cells_eq, hk, ← cells_eq]
  exact hc
theorem EqL.frame {h h' : H} {n0 n m : Nat} {v : AV} {L : List (Nat × Nat)} {B : List Nat} (hs : EqL h n0 n m v L B) (hB : ∀ b ∈ B, h'[b]? = h[b]?) (hL : ∀ p ∈ L, h'[p.2]? = h[p.2]?) : EqL h' n0 n m v L B := by
  obtain ⟨h1, h2, h3, h4⟩ := hs
  exact ⟨h1.frame hB, h2, fun p hp => ⟨(h3 p hp).1, (h3 p hp).2.1, cells_keep (hL p hp) (h3 p hp).2.2⟩, h4⟩
theorem EqL.lt {h : H} {n0 n m : Nat} {v : AV} {L : List (Nat × Nat)} {B : List Nat} (hs : EqL h n0 n m v L B) : (∀ b ∈ B, b < h.length) ∧ ∀ p ∈ L, p.2 < h.length := ⟨hs.1.lt, fun p hp => cells_lt (hs.2.2.1 p hp).2.2⟩
theorem EqL.get {n m : Nat} {L : List (Nat × Nat)} {k : Nat} (hk : k < L.length) : ∀ j, j < 4 → (L.flatMap (cEq n m))[k * 4 + j]? = (cEq n m (L.getD k (0, 0)))[j]? := fun j hj => flatMap_get (cEq_len n m) (0, 0) hk hj
theorem getD_mem {α : Type} {L : List α} {k : Nat} {d : α} (hk : k < L.length) : L.getD k d ∈ L := by
  rw [List.getD_eq_getElem?_getD, List.getElem?_eq_getElem hk]
  exact List.getElem_mem hk
theorem flat_set {n m : Nat} : ∀ {L : List (Nat × Nat)} {k : Nat} {Y : Nat}, k < L.length → ((L.flatMap (cEq n m)).set (k * 4 + 2) (.bool (Y.testBit n))).set (k * 4 + 3) (.int .u64 (ofN n Y : Int)) = (L.set k (Y, (L.getD k (0, 0)).2)).flatMap (cEq n m)
  | [], k, Y, hk => by simp at hk
  | p :: L, 0, Y, _ => by simp [cEq]
  | p :: L, k + 1, Y, hk => by
    have ih := flat_set (n := n) (m := m) (L := L) (k := k) (Y := Y) (by simpa using hk)
    have e2 : (k + 1) * 4 + 2 = 4 + (k * 4 + 2) := by omega
    have e3 : (k + 1) * 4 + 3 = 4 + (k * 4 + 3) := by omega
    rw [List.flatMap_cons, e2, e3, List.set_append_right _ _ (by rw [cEq_len]; omega), List.set_append_right _ _ (by rw [cEq_len]; omega), cEq_len, Nat.add_sub_cancel_left, Nat.add_sub_cancel_left, ih]
    simp
theorem map_set_fst {L : List (Nat × Nat)} {k Y : Nat} (hk : k < L.length) : (L.set k (Y, (L.getD k (0, 0)).2)).map (·.2) = L.map (·.2) := by
  rw [List.map_set]
  refine List.ext_getElem? fun i => ?_
  rw [List.getElem?_set]
  by_cases h : k = i
  · subst h
    simp [hk]
  · rw [if_neg h]
/-- One of them has been added to. -/
theorem EqL.put {h h' : H} {n0 n m k Y b : Nat} {v : AV} {L : List (Nat × Nat)} (hs : EqL h n0 n m v L [b]) (hk : k < L.length) (hlen : h'.length = h.length)
    (hfr : ∀ b', b' ≠ (L.getD k (0, 0)).2 → b' ≠ b → h'[b']? = h[b']?) (hc : h'.cells b = some (((L.flatMap (cEq n m)).set (k * 4 + 2) (.bool (Y.testBit n))).set (k * 4 + 3) (.int .u64 (ofN n Y : Int))))
    (hw : h'.cells (L.getD k (0, 0)).2 = some ((wordsN (Y % 2 ^ n) m).map (.int .i64))) : EqL h' n0 n m v (L.set k (Y, (L.getD k (0, 0)).2)) [b] := by
  obtain ⟨h1, h2, h3, h4⟩ := hs
  refine ⟨?_, h2, fun p hp => ?_, by rw [map_set_fst hk]; exact h4⟩
  · obtain ⟨g1, g2⟩ := h1
    rw [flat_set hk] at hc
    refine ⟨by rw [flatMap_len (cEq_len n m)], ?_⟩
    rcases g2 with ⟨_, _, hB⟩ | ⟨b2, rfl, hB, _⟩
    · cases hB
    · injection hB with hB
      subst hB
      exact .inr ⟨_, by simp, rfl, hc⟩
  · obtain ⟨i, hi⟩ := List.getElem?_of_mem hp
    rw [List.getElem?_set] at hi
    by_cases hki : k = i
    · subst hki
      rw [if_pos rfl, if_pos hk] at hi
      injection hi with hi
      subst hi
      obtain ⟨q1, q2, _⟩ := h3 _ (getD_mem (d := (0, 0)) hk)
      exact ⟨q1, q2, hw⟩
    · rw [if_neg hki] at hi
      have hpL := List.mem_of_getElem? hi
      obtain ⟨q1, q2, q3⟩ := h3 p hpL
      refine ⟨q1, q2, cells_keep (hfr _ (fun he => hki ?_) (fun he => q2 (by simp [he]))) q3⟩
      have hil := (List.getElem?_eq_some_iff.1 hi).1
      have e1 : (L.map (·.2))[i]? = (L.map (·.2))[k]? := by
        simp only [List.getElem?_map, hi, Option.map_some, he]
        simp [hk]
      exact ((List.getElem?_inj (by simpa using hil) h4).1 e1).symm
/-- What is seen of a list of such. -/
theorem EqL.adr {h : H} {n0 n m b o : Nat} {v : AV} {L : List (Nat × Nat)} (hs : EqL h n0 n m v L [b]) : Vw h 0 (.adr b o) (.rad (L.flatMap fun p => cQ n m p.1) o) := by
  have hc := hs.1.cells b (by simp)
  have hql : ∀ p : Nat × Nat, (cQ n m p.1).length = 4 := fun p => rfl
  refine .adr (Nat.zero_le _) hc (by rw [flatMap_len (cEq_len n m), flatMap_len (w := 4) hql]) (fun i y t hy ht => ?_)
  have hlt : i < L.length * 4 := by
    have := (List.getElem?_eq_some_iff.1 hy).1
    rwa [flatMap_len (cEq_len n m)] at this
  have hd : i / 4 < L.length := by omega
  have hm4 : i % 4 < 4 := by omega
  have e : i = i / 4 * 4 + i % 4 := by omega
  rw [e, EqL.get hd _ hm4] at hy
  rw [e, flatMap_get hql (0, 0) hd hm4] at ht
  have hp := hs.2.2.1 _ (getD_mem (d := (0, 0)) hd)
  generalize L.getD (i / 4) (0, 0) = p at hy ht hp
  generalize i % 4 = j at hy ht
  rcases j with _ | _ | _ | _ | j
  · simp [cEq] at hy
    simp [cQ] at ht
    subst hy ht
    exact .free free_int
  · simp [cEq] at hy
    simp [cQ, eI, wordsN_len] at ht
    subst hy ht
    exact vw_all (cs := (wordsN (p.1 % 2 ^ n) m).map (.int .i64)) (Nat.zero_le _) hp.2.2 (by simp [wordsN_len]) (one_map fun _ => rfl) (free_map_ fun _ => free_int)
  · simp [cEq] at hy
    simp [cQ] at ht
    subst hy ht
    exact .free free_bool
  · simp [cEq] at hy
    simp [cQ] at ht
    subst hy ht
    exact .free free_int
  · simp [cEq] at hy
theorem vw_cEq {h : H} {n0 n m : Nat} {p : Nat × Nat} (hb : n0 ≤ p.2) (hw : h.cells p.2 = some ((wordsN (p.1 % 2 ^ n) m).map (.int .i64))) : Vw h n0 (.agg (cEq n m p)) (.agg (cQ n m p.1)) := by
  refine .agg rfl (fun i y t hy ht => ?_)
  rcases i with _ | _ | _ | _ | j
  · simp [cEq] at hy
    simp [cQ] at ht
    subst hy ht
    exact .free free_int
  · simp [cEq] at hy
    simp [cQ, eI, wordsN_len] at ht
    subst hy ht
    exact vw_all (cs := (wordsN (p.1 % 2 ^ n) m).map (.int .i64)) hb hw (by simp [wordsN_len]) (one_map fun _ => rfl) (free_map_ fun _ => free_int)
  · simp [cEq] at hy
    simp [cQ] at ht
    subst hy ht
    exact .free free_bool
  · simp [cEq] at hy
    simp [cQ] at ht
    subst hy ht
    exact .free free_int
  · simp [cEq] at hy
theorem vw_eqAdr {h : H} {n m be : Nat} {p : Nat × Nat} (hc : h.cells be = some (cEq n m p)) (hw : h.cells p.2 = some ((wordsN (p.1 % 2 ^ n) m).map (.int .i64))) : Vw h 0 (.adr be 0) (.rad (cQ n m p.1) 0) := by
  refine .adr (Nat.zero_le _) hc rfl (fun i y t hy ht => ?_)
  have := vw_cEq (n0 := 0) (Nat.zero_le _) hw
  cases this with
  | agg hl hv => exact hv i y t hy ht
/-! ### the numbers -/
def stI (s : Sy) (n i : Nat) : List Nat × Nat := ((List.range i).map (rowE s n)).foldl (M.stepI n) ([], 0)
theorem stI_succ {s : Sy} {n i : Nat} : stI s n (i + 1) = M.stepI n (stI s n i) (rowE s n i) := by
  unfold stI
  rw [List.range_succ, List.map_append, List.foldl_append]
  rfl
theorem stI_sim {s : Sy} {n i : Nat} : Sim n (stS s n i) (stI s n i) := Sim.fold Sim.nil
theorem stI_len {s : Sy} {n i : Nat} : (stI s n i).1.length ≤ i := by
  rw [← (stI_sim (s := s) (n := n) (i := i)).len]
  exact stS_len
theorem redI_lt {n k x : Nat} {L : List Nat} (hL : ∀ l ∈ L, l < 2 ^ k) (hx : x < 2 ^ k) : redI n L x < 2 ^ k := by
  obtain ⟨u, hu, he⟩ := redI_span (n := n) (L := L) (x := x)
  rw [he]
  exact Nat.xor_lt_two_pow hx (hu.lt hL)
theorem OkE.bnd {s : Sy} {n m : Nat} (ho : OkE s n m) : ∀ {i}, i ≤ (lB s.rows).length → ∀ l ∈ (stI s n i).1, l < 2 ^ (n + 42)
  | 0, _, l, h => by cases h
  | i + 1, h, l, hl => by
    have hn := ho.nr
    have ih := ho.bnd (i := i) (by omega)
    have hE := rowE_lt (ho.lt i (by omega))
    have hpow : (2 : Nat) ^ (n + 1 + (i + 1)) ≤ 2 ^ (n + 42) := Nat.pow_le_pow_right (by decide) (by omega)
    have hX : redI n (stI s n i).1 (rowE s n i) < 2 ^ (n + 42) := redI_lt ih (by omega)
    rw [stI_succ] at hl
    unfold M.stepI at hl
    split at hl
    · rcases List.mem_append.1 hl with hl | hl
      · obtain ⟨q, hq, rfl⟩ := List.mem_map.1 hl
        have hq2 := ih q hq
        split
        · exact Nat.xor_lt_two_pow hq2 hX
        · exact hq2
      · rw [List.mem_singleton.1 hl]
        exact hX
    · split at hl <;> exact ih l hl
theorem OkE.bnd2 {s : Sy} {n m : Nat} (ho : OkE s n m) : ∀ {i}, i ≤ (lB s.rows).length → (stI s n i).2 < 2 ^ (n + 42)
  | 0, _ => Nat.two_pow_pos _
  | i + 1, h => by
    have hn := ho.nr
    have ih := ho.bnd2 (i := i) (by omega)
    have hE := rowE_lt (ho.lt i (by omega))
    have hpow : (2 : Nat) ^ (n + 1 + (i + 1)) ≤ 2 ^ (n + 42) := Nat.pow_le_pow_right (by decide) (by omega)
    have hX : redI n (stI s n i).1 (rowE s n i) < 2 ^ (n + 42) := redI_lt (ho.bnd (i := i) (by omega)) (by omega)
    rw [stI_succ]
    unfold M.stepI
    split
    · exact ih
    · split
      · exact hX
      · exact ih
theorem shr_lt {n X : Nat} (h : X < 2 ^ (n + 42)) : ofN n X < 18446744073709551616 := by
  unfold ofN
  rw [Nat.shiftRight_eq_div_pow, Nat.div_lt_iff_lt_mul (Nat.two_pow_pos _)]
  refine Nat.lt_of_lt_of_le h ?_
  rw [show (18446744073709551616 : Nat) = 2 ^ 64 from rfl, ← Nat.pow_add]
  exact Nat.pow_le_pow_right (by decide) (by omega)
theorem Msk.shr {n i : Nat} {p : List Nat × Nat} (h : Msk n i p) : ofN n p.2 = 0 ↔ p.2 = 0 := by
  unfold ofN
  constructor
  · intro h0
    by_cases hne : p.2 = 0
    · exact hne
    · obtain ⟨j, hj, hb⟩ := h.some hne
      rw [← Nat.testBit_shiftRight, h0] at hb
      simp at hb
  · intro h0
    rw [h0]
    simp
theorem u64_shl {i : Nat} (hi : i < 64) : IntKind.u64.wrap (1 * 2 ^ (min i IntKind.u64.bits)) = ((2 ^ i : Nat) : Int) := by
  have h1 : min i IntKind.u64.bits = i := by
    simp [IntKind.bits]
    omega
  rw [h1, Int.one_mul]
  have h3 : ((2 : Int) ^ i) = ((2 ^ i : Nat) : Int) := by simp
  have h4 : (2 : Nat) ^ i < 2 ^ 64 := Nat.pow_lt_pow_right (by decide) hi
  rw [h3]
  exact u64_nat (by omega)
theorem redI_take {n k : Nat} {L : List Nat} {x : Nat} (hk : k < L.length) : redI n (L.take (k + 1)) x = if (redI n (L.take k) x).testBit (lead n (L.getD k 0)) = true then redI n (L.take k) x ^^^ L.getD k 0 else redI n (L.take k) x := by
  unfold redI
  rw [List.take_add_one, List.foldl_append]
  simp [hk]
theorem getD_fst {L : List (Nat × Nat)} {k : Nat} (hk : k < L.length) : (L.map (·.1)).getD k 0 = (L.getD k (0, 0)).1 := by simp [hk]
/-- The equation that is being added to, and the list. -/
structure RS (h h' : H) (s : Sy) (n m : Nat) (v : AV) (B : List Nat) (L : List (Nat × Nat)) (be bw X : Nat) : Prop where
  box : h'.cells h.length = .some [.int .i64 n, eBS s.rows, eO s.right]
  eq : EqL h' (h.length + 1) n m v L B
  be0 : h.length < be
  bw0 : h.length < bw
  hne : be ≠ bw
  beB : be ∉ B
  bwB : bw ∉ B
  beL : ∀ p ∈ L, p.2 ≠ be
  bwL : ∀ p ∈ L, p.2 ≠ bw
  ce : h'.cells be = .some (cEq n m (X, bw))
  cw : h'.cells bw = .some ((wordsN (X % 2 ^ n) m).map (.int .i64))
theorem RS.len {h h' : H} {s : Sy} {n m : Nat} {v : AV} {B : List Nat} {L : List (Nat × Nat)} {be bw X : Nat} (hr : RS h h' s n m v B L be bw X) : h.length < h'.length := by
  have := cells_lt hr.box
  exact this
/-- It has been added to. -/
theorem RS.addE {h h1 h2 : H} {s : Sy} {n m : Nat} {v : AV} {B : List Nat} {L : List (Nat × Nat)} {be bw X Y : Nat} (hr : RS h h1 s n m v B L be bw X) (hl : h2.length = h1.length) (hfr : ∀ b', b' ≠ bw → b' ≠ be → h2[b']? = h1[b']?)
    (hc : h2.cells be = .some (((cEq n m (X, bw)).set (0 + 2) (.bool (!(X.testBit n == Y.testBit n)))).set (0 + 3) (.int .u64 ((ofN n X ^^^ ofN n Y : Nat) : Int)))) (hw : h2.cells bw = .some ((wordsN (X % 2 ^ n ^^^ Y % 2 ^ n) m).map (.int .i64))) : RS h h2 s n m v B L be bw (X ^^^ Y) := by
  refine ⟨cells_keep (hfr _ (by have := hr.bw0; omega) (by have := hr.be0; omega)) hr.box, hr.eq.frame (fun b hb => hfr b (fun he => hr.bwB (he ▸ hb)) (fun he => hr.beB (he ▸ hb))) (fun p hp => hfr _ (hr.bwL p hp) (hr.beL p hp)), hr.be0, hr.bw0, hr.hne, hr.beB, hr.bwB, hr.beL, hr.bwL, ?_, ?_⟩
  · rw [hc]
    have e1 : (X ^^^ Y).testBit n = !(X.testBit n == Y.testBit n) := Nat.testBit_xor_
    have e2 : ofN n (X ^^^ Y) = ofN n X ^^^ ofN n Y := ofN_xor
    unfold cEq
    simp only [e1, e2]
    rfl
  · rw [hw, mod_xor]
/-- It has been added to one of the list. -/
theorem RS.addL {h h1 h2 : H} {s : Sy} {n m k b : Nat} {v : AV} {L : List (Nat × Nat)} {be bw X : Nat} (hr : RS h h1 s n m v [b] L be bw X) (hk : k < L.length) (hl : h2.length = h1.length) (hfr : ∀ b', b' ≠ (L.getD k (0, 0)).2 → b' ≠ b → h2[b']? = h1[b']?)
    (hc : h2.cells b = .some (((L.flatMap (cEq n m)).set (k * 4 + 2) (.bool (!((L.getD k (0, 0)).1.testBit n == X.testBit n)))).set (k * 4 + 3) (.int .u64 ((ofN n (L.getD k (0, 0)).1 ^^^ ofN n X : Nat) : Int))))
    (hw : h2.cells (L.getD k (0, 0)).2 = .some ((wordsN ((L.getD k (0, 0)).1 % 2 ^ n ^^^ X % 2 ^ n) m).map (.int .i64))) : RS h h2 s n m v [b] (L.set k ((L.getD k (0, 0)).1 ^^^ X, (L.getD k (0, 0)).2)) be bw X := by
  have hmem := getD_mem (d := (0, 0)) hk
  have hp := hr.eq.2.2.1 _ hmem
  have e1 : ((L.getD k (0, 0)).1 ^^^ X).testBit n = !((L.getD k (0, 0)).1.testBit n == X.testBit n) := Nat.testBit_xor_
  have e2 : ofN n ((L.getD k (0, 0)).1 ^^^ X) = ofN n (L.getD k (0, 0)).1 ^^^ ofN n X := ofN_xor
  rw [← e1, ← e2] at hc
  rw [mod_xor] at hw
  have hb0 := hr.eq.2.1 b (by simp)
  have hmm : ∀ p ∈ L.set k ((L.getD k (0, 0)).1 ^^^ X, (L.getD k (0, 0)).2), ∃ q ∈ L, p.2 = q.2 := fun p hp => by
    rcases List.mem_or_eq_of_mem_set hp with hp | hp
    · exact ⟨p, hp, rfl⟩
    · exact ⟨_, hmem, by rw [hp]⟩
  refine ⟨cells_keep (hfr _ (by omega) (by omega)) hr.box, hr.eq.put hk hl hfr hc hw, hr.be0, hr.bw0, hr.hne, hr.beB, hr.bwB, fun p hp => ?_, fun p hp => ?_, cells_keep (hfr _ (hr.beL _ hmem).symm fun he => hr.beB (by simp [he])) hr.ce, cells_keep (hfr _ (hr.bwL _ hmem).symm fun he => hr.bwB (by simp [he])) hr.cw⟩
  · obtain ⟨q, hq, he⟩ := hmm p hp
    rw [he]
    exact hr.beL q hq
  · obtain ⟨q, hq, he⟩ := hmm p hp
    rw [he]
    exact hr.bwL q hq
/-- The list, of which the first so many have been looked at. -/
def updT (n X : Nat) (L : List (Nat × Nat)) (k : Nat) : List (Nat × Nat) := (L.take k).map (fun p => (if p.1.testBit (lead n X) = true then p.1 ^^^ X else p.1, p.2)) ++ L.drop k
theorem updT_len {n X k : Nat} {L : List (Nat × Nat)} : (updT n X L k).length = L.length := by
  simp [updT]
  omega
theorem updT_get {n X k : Nat} {L : List (Nat × Nat)} (hk : k < L.length) : (updT n X L k).getD k (0, 0) = L.getD k (0, 0) := by
  unfold updT
  rw [List.getD_eq_getElem?_getD, List.getElem?_append_right (by rw [List.length_map, List.length_take]; omega), List.length_map, List.length_take, Nat.min_eq_left (by omega), Nat.sub_self, List.getElem?_drop]
  simp
theorem updT_succ {n X k : Nat} {L : List (Nat × Nat)} (hk : k < L.length) : updT n X L (k + 1) = if (L.getD k (0, 0)).1.testBit (lead n X) = true then (updT n X L k).set k ((L.getD k (0, 0)).1 ^^^ X, (L.getD k (0, 0)).2) else updT n X L k := by
  have hd : L.drop k = L.getD k (0, 0) :: L.drop (k + 1) := by
    rw [List.drop_eq_getElem_cons hk]
    simp [hk]
  have ht : L.take (k + 1) = L.take k ++ [L.getD k (0, 0)] := by
    rw [List.take_add_one]
    simp [hk]
  have hlk : ((L.take k).map (fun p : Nat × Nat => (if p.1.testBit (lead n X) = true then p.1 ^^^ X else p.1, p.2))).length = k := by
    simp
    omega
  unfold updT
  rw [ht, List.map_append]
  generalize L.getD k (0, 0) = p at hd
  by_cases hb : p.1.testBit (lead n X) = true
  · rw [if_pos hb, List.set_append_right _ _ (by omega), hlk, Nat.sub_self, hd]
    simp [hb]
  · rw [if_neg hb, hd]
    simp [hb]
theorem updT_all {n X : Nat} {L : List (Nat × Nat)} : (updT n X L L.length).map (·.1) = updI n X (L.map (·.1)) := by
  unfold updT updI
  rw [List.take_length, List.drop_length, List.append_nil, List.map_map, List.map_map]
  rfl
theorem updT_0 {n X : Nat} {L : List (Nat × Nat)} : updT n X L 0 = L := by simp [updT]
theorem updT_fst {n X k : Nat} {L : List (Nat × Nat)} (hb : ∀ p ∈ L, p.1 < 2 ^ (n + 42)) (hX : X < 2 ^ (n + 42)) : ∀ p ∈ updT n X L k, p.1 < 2 ^ (n + 42) := fun p hp => by
  unfold updT at hp
  rcases List.mem_append.1 hp with hp | hp
  · obtain ⟨q, hq, rfl⟩ := List.mem_map.1 hp
    have := hb q (List.mem_of_mem_take hq)
    simp only
    split
    · exact Nat.xor_lt_two_pow this hX
    · exact this
  · exact hb p (List.mem_of_mem_drop hp)
def eQs (n m : Nat) : Option (List Nat) → AV
  | none => .nils
  | some l => .ro 4 (l.flatMap (cQ n m)) l.length
theorem lenA_eQs {n m : Nat} {l : Option (List Nat)} : lenA (eQs n m l) = some (.int .i64 (lL l).length) := by cases l <;> rfl
theorem iaddr_eQs {n m : Nat} {l : Option (List Nat)} {k : IntKind} {i : Int} (h1 : 0 ≤ i) (h2 : i < (lL l).length) : iaddrA 4 (eQs n m l) (.int k i) = some (.rad ((lL l).flatMap (cQ n m)) (i.toNat * 4)) := by
  cases l with
  | none => simp [lL] at h2; omega
  | some l => exact iaddrA_ro h1 h2
theorem ld_Q {n m : Nat} {l : List Nat} {i : Nat} (hi : i < l.length) : ld true 4 (l.flatMap (cQ n m)) (i * 4) = some (.agg (cQ n m (l.getD i 0))) := ld_row (cQ_len n m) 0 hi
/-- The list, as it is seen. -/
theorem EqL.vw {h : H} {n0 n m : Nat} {v : AV} {L : List (Nat × Nat)} {B : List Nat} (hs : EqL h n0 n m v L B) (hnn : L = [] → v = .nils) : Vw h n0 v (eQs n m (optN (L.map (·.1)))) := by
  have hql : ∀ p : Nat × Nat, (cQ n m p.1).length = 4 := fun p => rfl
  have hone : (L.flatMap fun p => cQ n m p.1).all one = true := by
    rw [List.all_eq_true]
    intro c hc
    obtain ⟨p, _, hp⟩ := List.mem_flatMap.1 hc
    unfold cQ at hp
    simp only [List.mem_cons, List.not_mem_nil, or_false] at hp
    rcases hp with rfl | rfl | rfl | rfl
    · rfl
    · exact one_eI
    · rfl
    · rfl
  have hvw := hs.1.vw (n0 := n0) (ts := L.flatMap fun p => cQ n m p.1) hs.2.1 (by rw [flatMap_len (cEq_len n m), flatMap_len (w := 4) hql]) hone (fun i y t hy ht => by
    have hlt : i < L.length * 4 := by
      have := (List.getElem?_eq_some_iff.1 hy).1
      rwa [flatMap_len (cEq_len n m)] at this
    have hd : i / 4 < L.length := by omega
    have hm4 : i % 4 < 4 := by omega
    have e : i = i / 4 * 4 + i % 4 := by omega
    rw [e, EqL.get hd _ hm4] at hy
    rw [e, flatMap_get hql (0, 0) hd hm4] at ht
    have hp := hs.2.2.1 _ (getD_mem (d := (0, 0)) hd)
    generalize L.getD (i / 4) (0, 0) = p at hy ht hp
    generalize i % 4 = j at hy ht
    have hh := vw_cEq hp.1 hp.2.2
    rcases j with _ | _ | _ | _ | j
    · simp [cEq] at hy
      simp [cQ] at ht
      subst hy ht
      exact .free free_int
    · simp [cEq] at hy
      simp [cQ, eI, wordsN_len] at ht
      subst hy ht
      exact vw_all (cs := (wordsN (p.1 % 2 ^ n) m).map (.int .i64)) hp.1 hp.2.2 (by simp [wordsN_len]) (one_map fun _ => rfl) (free_map_ fun _ => free_int)
    · simp [cEq] at hy
      simp [cQ] at ht
      subst hy ht
      exact .free free_bool
    · simp [cEq] at hy
      simp [cQ] at ht
      subst hy ht
      exact .free free_int
    · simp [cEq] at hy)
  unfold optN
  by_cases hl : L = []
  · have := hnn hl
    subst this hl
    exact .free free_nils
  · rw [if_neg (by simpa using hl)]
    rcases hvw with ⟨h0, _, _⟩ | ⟨_, hv⟩
    · exact absurd (List.eq_nil_of_length_eq_zero h0) hl
    · have e1 : eQs n m (some (L.map (·.1))) = .ro 4 (L.flatMap fun p => cQ n m p.1) L.length := by
        show AV.ro 4 ((L.map (·.1)).flatMap (cQ n m)) (L.map (·.1)).length = _
        rw [List.flatMap_map, List.length_map]
      rw [e1]
      exact hv

/-- The list so far, the system in its box. -/
def OI (h h' : H) (s : Sy) (n m : Nat) (v : AV) (B : List Nat) (L : List (Nat × Nat)) : Prop :=
  h'.cells h.length = .some [.int .i64 n, eBS s.rows, eO s.right] ∧ EqL h' (h.length + 1) n m v L B ∧ (L = [] → v = .nils)
theorem OI.start {h h' : H} {s : Sy} {n m : Nat} {v : AV} {B : List Nat} {L : List (Nat × Nat)} {be bw X : Nat} (ho : OI h h' s n m v B L) {h1 : H} (hfr : ∀ b, b < h'.length → h1[b]? = h'[b]?) (he : h'.length ≤ be) (hw : h'.length ≤ bw) (hne : be ≠ bw)
    (hce : h1.cells be = .some (cEq n m (X, bw))) (hcw : h1.cells bw = .some ((wordsN (X % 2 ^ n) m).map (.int .i64))) : RS h h1 s n m v B L be bw X := by
  obtain ⟨o1, o2, _⟩ := ho
  obtain ⟨l1, l2⟩ := o2.lt
  have := cells_lt o1
  exact ⟨cells_keep (hfr _ this) o1, o2.frame (fun b hb => hfr b (l1 b hb)) (fun p hp => hfr _ (l2 p hp)), by omega, by omega, hne, fun hb => absurd (l1 _ hb) (by omega), fun hb => absurd (l1 _ hb) (by omega),
    fun p hp he2 => absurd (l2 p hp) (by omega), fun p hp he2 => absurd (l2 p hp) (by omega), hce, hcw⟩
theorem RS.out {h h' : H} {s : Sy} {n m : Nat} {v : AV} {B : List Nat} {L : List (Nat × Nat)} {be bw X : Nat} (hr : RS h h' s n m v B L be bw X) (hn : L = [] → v = .nils) : OI h h' s n m v B L := ⟨hr.box, hr.eq, hn⟩
/-- The equation is put on the list. -/
theorem RS.app {h h1 : H} {s : Sy} {n m : Nat} {v : AV} {B : List Nat} {L : List (Nat × Nat)} {be bw X : Nat} {pm : Nat → Prop} {Q : AV → H → Prop} (hr : RS h h1 s n m v B L be bw X) (hpm : ∀ b, h.length ≤ b → pm b) (hl : L.length ≤ 1000) {l : H}
    (hQ : ∀ v' h2 B', OI h h2 s n m v' B' (L ++ [(X, bw)]) → Q v' h2) : apA pm (h1 ++ l) Q 4 48 (some (cEq n m (X, bw), 1)) v := by
  obtain ⟨e1, e2, e3, e4⟩ := hr.eq
  have hfr0 : ∀ b, b < h1.length → (h1 ++ l)[b]? = h1[b]? := fun b hb => List.getElem?_append_left hb
  have hlt1 := e1.lt
  refine (e1.frame fun b hb => hfr0 b (hlt1 b hb)).app0 (new := cEq n m (X, bw)) (k := 1) (fun b hb => hpm b (by have := e2 b hb; omega)) rfl (by omega) fun v' h2 B' a1 a2 a3 a4 a5 => hQ v' h2 B' ?_
  have hll : h1.length ≤ (h1 ++ l).length := by simp
  have hfr : ∀ b, b < h1.length → b ∉ B → h2[b]? = h1[b]? := fun b hb hn => (a3 b (by omega) hn).trans (hfr0 b hb)
  have hbx := cells_lt hr.box
  refine ⟨cells_keep (hfr _ hbx fun hb => absurd (e2 _ hb) (by omega)) hr.box, ⟨?_, fun b hb => ?_, fun p hp => ?_, ?_⟩, by simp⟩
  · rw [List.length_append, List.length_cons, List.length_nil, List.flatMap_append]
    simpa using a1
  · rcases a4 b hb with h5 | h5
    · exact e2 b h5
    · omega
  · have hcase : h.length + 1 ≤ p.2 ∧ p.2 ∉ B ∧ h1.cells p.2 = .some ((wordsN (p.1 % 2 ^ n) m).map (.int .i64)) := by
      rcases List.mem_append.1 hp with hp | hp
      · exact e3 p hp
      · rw [List.mem_singleton.1 hp]
        exact ⟨by have := hr.bw0; omega, hr.bwB, hr.cw⟩
    obtain ⟨q1, q2, q3⟩ := hcase
    have := cells_lt q3
    refine ⟨q1, fun hb => ?_, cells_keep (hfr _ this q2) q3⟩
    rcases a4 _ hb with h5 | h5
    · exact q2 h5
    · omega
  · rw [List.map_append, List.nodup_append]
    refine ⟨e4, by simp, fun a ha b hb => ?_⟩
    obtain ⟨p, hp, rfl⟩ := List.mem_map.1 ha
    simp at hb
    subst hb
    exact hr.bwL p hp
theorem flatMap_cong {α β : Type} {f g : α → List β} : ∀ {l : List α}, (∀ a ∈ l, f a = g a) → l.flatMap f = l.flatMap g
  | [], _ => rfl
  | a :: l, h => by
    rw [List.flatMap_cons, List.flatMap_cons, h a (by simp), flatMap_cong fun b hb => h b (List.mem_cons_of_mem _ hb)]
def redR (s : Sy) (n m : Nat) (x : AV) : Prop := ∃ L : List Nat, L.Perm (stI s n (lB s.rows).length).1 ∧ x = .tup [eQs n m (optN L), .int .u64 (ofN n (stI s n (lB s.rows).length).2 : Int)]
theorem rowAt_flat {n m : Nat} {L : List (Nat × Nat)} {i : Nat} (hi : i < L.length) : rowAt (L.flatMap (cEq n m)) 4 i = cEq n m (L.getD i (0, 0)) := flatMap_row (cEq_len n m) (0, 0) hi
theorem perm_get {α : Type} {d : α} {L : List α} {l : List Nat} (hl : l.Perm (List.range L.length)) : (l.map fun i => L.getD i d).Perm L := by
  have h1 := hl.map fun i => L.getD i d
  have h2 : (List.range L.length).map (fun i => L.getD i d) = L := by
    refine List.ext_getElem? fun i => ?_
    by_cases hi : i < L.length <;> simp [hi]
  rwa [h2] at h1

theorem OkE.nn {s : Sy} {n m : Nat} (ho : OkE s n m) : s.size.toNat = n := by
  rw [ho.sz]
  rfl
def nSy (s : Sy) : Nat := s.size.toNat
def linS (s : Sy) : List Nat := (stS s (nSy s) (lB s.rows).length).1
def linI (s : Sy) : List Nat := (stI s (nSy s) (lB s.rows).length).1
def refN (s : Sy) : Nat := (stS s (nSy s) (lB s.rows).length).2
theorem lin_sim (s : Sy) : Sim (nSy s) (stS s (nSy s) (lB s.rows).length) (stI s (nSy s) (lB s.rows).length) := stI_sim
theorem okE_n {s : Sy} (h : okSy s = true) : ∃ m, OkE s (nSy s) m := by
  obtain ⟨n, m, ho⟩ := okE_of h
  have := ho.nn
  unfold nSy
  rw [this]
  exact ⟨m, ho⟩
def FlI (h h' : H) (n m bb x : Nat) : Prop :=
  h.length + 2 ≤ h'.length ∧ h'.cells h.length = some [.int .i64 n, .sl bb 0 1 m m] ∧ h'.cells (h.length + 1) = some [.int .i64 0, .nils] ∧ h'.cells bb = some ((wordsN x m).map (.int .i64)) ∧ bb < h.length ∧ ∀ c, c < h.length → c ≠ bb → h'[c]? = h[c]?
theorem FlI.app {h h' l : H} {n m bb x : Nat} (hr : FlI h h' n m bb x) : FlI h (h' ++ l) n m bb x := by
  obtain ⟨h1, h2, h3, h4, h5, h6⟩ := hr
  exact ⟨by simp; omega, cells_app h2, cells_app h3, cells_app h4, h5, fun c hc hn => (List.getElem?_append_left (by omega)).trans (h6 c hc hn)⟩
theorem FlI.put {h h' h2 : H} {n m bb x y : Nat} (hr : FlI h h' n m bb x) (hl : h'.length ≤ h2.length) (hf : ∀ b', b' < h'.length → b' ≠ bb → h2[b']? = h'[b']?) (hc : h2.cells bb = some ((wordsN y m).map (.int .i64))) : FlI h h2 n m bb y := by
  obtain ⟨h1, h2, h3, h4, h5, h6⟩ := hr
  exact ⟨by omega, cells_keep (hf _ (by omega) (by omega)) h2, cells_keep (hf _ (by omega) (by omega)) h3, hc, h5, fun c hc hn => (hf c (by omega) hn).trans (h6 c hc hn)⟩
theorem fillCol_take {n i k x : Nat} {q : Bool} {L : List Nat} (hk : k < L.length) : fillColS n q (L.take (k + 1)) i x = fillStep n q i (fillColS n q (L.take k) i x) (L.getD k 0) := by
  unfold fillColS
  rw [List.take_add_one, List.foldl_append]
  simp [hk]
theorem oddN_mod {n A B : Nat} : oddN (A % 2 ^ n) B n = oddN A B n := oddN_congr fun j hj => by
  rw [Nat.testBit_mod_two_pow]
  simp [hj]
def solN (s : Sy) : Nat := fillS (nSy s) true (linS s) 0 (nSy s)
theorem fillS_lt {n : Nat} {q : Bool} {L : List Nat} {x j : Nat} (hj : j ≤ n) (hx : ∀ c, n ≤ c → x.testBit c = false) : ∀ c, n ≤ c → (fillS n q L x j).testBit c = false := fun c hc => by
  rw [fillS_keep hj (.inr hc)]
  exact hx c hc
theorem setP_hi {n : Nat} {g : Nat → Bool} {M : List Nat} {y c : Nat} (hM : ∀ e ∈ M, lead n e < n) (hc : n ≤ c) : (setP n g M y).testBit c = y.testBit c := setP_free fun hh => by
  obtain ⟨e, he, hec⟩ := List.mem_map.1 hh
  have := hM e he
  omega
theorem sol_eq {s : Sy} {M : List Nat} (hp : M.Perm (linI s)) : setP (nSy s) (fun e => e.testBit (nSy s)) M 0 = solN s := by
  have hs := lin_sim s
  have h1 := piv_eq hs (x := 0) (fun l _ => by simp) (pivV_solve hs.ei hs.rr hp)
  refine Nat.eq_of_testBit_eq fun c => ?_
  by_cases hc : c < nSy s
  · exact h1 c hc
  · rw [setP_hi (fun e he => hs.ei.lt e (hp.mem_iff.1 he)) (by omega)]
    unfold solN
    rw [fillS_lt (Nat.le_refl _) (fun c _ => by simp) c (by omega)]
    simp
def mSy (s : Sy) : Nat := (nSy s + 15) / 16
theorem OkE.mm {s : Sy} {m : Nat} (ho : OkE s (nSy s) m) : m = mSy s := by
  have := ho.hm
  unfold mSy
  omega
def solB (s : Sy) : Bt := if okSy s ∧ refN s = 0 then ⟨nSy s, some (wordsN (solN s) (mSy s))⟩ else ⟨0, none⟩
def solq (s : Sy) : Bool := okSy s && decide (refN s = 0)
def solV (s : Sy) : AV := .tup [eB (solB s), .bool (solq s)]
theorem wordsN_succ {B m : Nat} : wordsN B (m + 1) = (wordN B 0 : Int) :: wordsN (B >>> 16) m := by
  unfold wordsN
  rw [List.range_succ_eq_map, List.map_cons, List.map_map]
  congr 1
  refine List.map_congr_left fun k _ => ?_
  simp only [Function.comp]
  unfold wordN
  rw [← Nat.shiftRight_add]
  congr 3
  omega
theorem numW_wordsN : ∀ {m B : Nat}, B < 2 ^ (16 * m) → numW (wordsN B m) = B
  | 0, B, h => by
    have : B = 0 := by simpa using h
    subst this
    rfl
  | m + 1, B, h => by
    have h16 : (2 : Nat) ^ 16 = 65536 := rfl
    have hlt : B >>> 16 < 2 ^ (16 * m) := by
      rw [Nat.shiftRight_eq_div_pow, Nat.div_lt_iff_lt_mul (Nat.two_pow_pos _), ← Nat.pow_add]
      rwa [show 16 * m + 16 = 16 * (m + 1) by omega]
    rw [wordsN_succ, numW, numW_wordsN hlt]
    have hw : (wordN B 0 : Int).toNat = B % 65536 := by
      rw [Int.toNat_natCast]
      rfl
    rw [hw, Nat.shiftRight_eq_div_pow, h16]
    omega
/-- A number whose bits are told. -/
def mkN (n : Nat) (g : Nat → Bool) : Nat := (List.range n).foldl (fun B i => setB B i (g i)) 0
theorem mkN_succ {n : Nat} {g : Nat → Bool} : mkN (n + 1) g = setB (mkN n g) n (g n) := by
  unfold mkN
  rw [List.range_succ, List.foldl_append]
  rfl
theorem mkN_bit {g : Nat → Bool} {j : Nat} : ∀ {n : Nat}, (mkN n g).testBit j = (decide (j < n) && g j)
  | 0 => by simp [mkN]
  | n + 1 => by
    rw [mkN_succ, setB_bit]
    by_cases h : j = n
    · subst h
      simp
    · rw [if_neg h, mkN_bit]
      congr 1
      rw [decide_eq_decide]
      omega
def edgeN (e : List Int) : Nat := e.foldl (fun B p => B ||| 2 ^ p.toNat) 0
theorem edgeN_from {j : Nat} : ∀ {e : List Int} {B : Nat}, (∀ p ∈ e, 0 ≤ p) → (e.foldl (fun B p => B ||| 2 ^ p.toNat) B).testBit j = (B.testBit j || decide ((j : Int) ∈ e))
  | [], B, _ => by simp
  | p :: e, B, h => by
    rw [List.foldl_cons, edgeN_from fun q hq => h q (List.mem_cons_of_mem _ hq), or_bit]
    have h0 := h p (by simp)
    have : decide (p.toNat = j) = decide ((j : Int) = p) := by
      rw [decide_eq_decide]
      omega
    rw [this, Bool.or_assoc]
    congr 1
    rw [← Bool.decide_or, decide_eq_decide, List.mem_cons]
theorem edgeN_bit {e : List Int} {j : Nat} (h : ∀ p ∈ e, 0 ≤ p) : (edgeN e).testBit j = decide ((j : Int) ∈ e) := by
  unfold edgeN
  rw [edgeN_from h]
  simp
theorem edgeN_take {e : List Int} {i : Nat} (hi : i < e.length) : edgeN (e.take (i + 1)) = edgeN (e.take i) ||| 2 ^ (e.getD i 0).toNat := by
  unfold edgeN
  rw [List.take_add_one, List.foldl_append]
  simp [hi]
theorem mkN_edge {e : List Int} {n : Nat} (h : ∀ p ∈ e, 0 ≤ p ∧ p < n) : mkN n (fun i => decide ((i : Int) ∈ e)) = edgeN e := by
  refine Nat.eq_of_testBit_eq fun j => ?_
  rw [mkN_bit, edgeN_bit fun p hp => (h p hp).1]
  by_cases hj : j < n
  · simp [hj]
  · have : (j : Int) ∉ e := fun hm => by have := (h _ hm).2; omega
    simp [hj, this]
theorem edgeN_lt {e : List Int} {n : Nat} (h : ∀ p ∈ e, 0 ≤ p ∧ p < n) : edgeN e < 2 ^ n := by
  rw [← mkN_edge h]
  refine Nat.lt_pow_two_of_testBit _ fun j hj => ?_
  rw [mkN_bit]
  simp
  omega
theorem lastOk_of {B n m : Nat} (hm : (((n : Int) + 15) / 16) = (m : Int)) (hB : B < 2 ^ n) : lastOk n (wordsN B m) = true := by
  unfold lastOk
  rw [Bool.or_eq_true, decide_eq_true_eq, decide_eq_true_eq]
  by_cases hz : (n : Int) % 16 = 0
  · exact .inl hz
  · right
    have hm1 : 1 ≤ m := by omega
    rw [wordsN_len, wordsN_get (by omega)]
    have hr : min ((n : Int) % 16).toNat IntKind.i64.bits = n % 16 := by
      simp [IntKind.bits]
      omega
    rw [hr]
    have hlt : wordN B (m - 1) < 2 ^ (n % 16) := by
      unfold wordN
      refine Nat.lt_of_le_of_lt (Nat.mod_le _ _) ?_
      rw [Nat.shiftRight_eq_div_pow, Nat.div_lt_iff_lt_mul (Nat.two_pow_pos _), ← Nat.pow_add]
      rwa [show n % 16 + 16 * (m - 1) = n by omega]
    have h2 : ((2 : Int) ^ (n % 16)) = ((2 ^ (n % 16) : Nat) : Int) := by simp
    rw [h2, ← Int.ofNat_fdiv, Nat.div_eq_of_lt hlt]
    rfl
theorem okBt_of {B n m : Nat} (hm : (((n : Int) + 15) / 16) = (m : Int)) (hB : B < 2 ^ n) (hn : n ≤ 4096) : okBt ⟨n, some (wordsN B m)⟩ = true := by
  have hl : lI (some (wordsN B m)) = wordsN B m := rfl
  have hw : okWords (wordsN B m) = true := by
    unfold okWords
    rw [List.all_eq_true]
    intro w hw
    have := wordsN_all w hw
    simp [this.1, this.2]
  simp only [okBt, hl, wordsN_len, hw, lastOk_of hm hB, Bool.and_eq_true, decide_eq_true_eq, and_true] <;> omega

--eng lenA_eIS iaddr_eIS get_IS one_eIS cellsOf_eIS one_eI_ cellsOf_eI_ fillA_eI
theorem one_eI_ {l : Option (List Int)} : one (eI l) = true := by cases l <;> rfl
theorem fillA_eI {l : Option (List Int)} : fillA [.nils] [(0, 1, eI l)] = some [eI l] := by cases l <;> rfl
theorem cellsOf_eI_ {l : Option (List Int)} : cellsOf (eI l) = [eI l] := by cases l <;> rfl
def eIS : Option (List (List Int)) → AV
  | none => .nils
  | some l => .ro 1 (l.map fun e => eI (some e)) l.length
def lIS : Option (List (List Int)) → List (List Int)
  | none => []
  | some l => l
theorem lenA_eIS {l : Option (List (List Int))} : lenA (eIS l) = some (.int .i64 (lIS l).length) := by cases l <;> rfl
theorem iaddr_eIS {l : Option (List (List Int))} {k : IntKind} {n : Int} (h1 : 0 ≤ n) (h2 : n < (lIS l).length) : iaddrA 1 (eIS l) (.int k n) = some (.rad ((lIS l).map fun e => eI (some e)) n.toNat) := by
  cases l with
  | none => simp [lIS] at h2; omega
  | some l => exact (iaddrA_ro h1 h2).trans (by simp [lIS])
theorem get_IS {l : List (List Int)} {i : Nat} (hi : i < l.length) : (l.map fun e => eI (some e))[i]? = some (eI (some (l.getD i []))) := by simp [hi]
theorem one_eIS {l : Option (List (List Int))} : one (eIS l) = true := by cases l <;> rfl
theorem cellsOf_eIS {l : Option (List (List Int))} : cellsOf (eIS l) = [eIS l] := by cases l <;> rfl
theorem free_eIS {l : Option (List (List Int))} : Free (eIS l) := by
  cases l with
  | none => exact free_nils
  | some l => exact free_ro (free_map_ fun _ => free_eI)
def optE (l : List (List Int)) : Option (List (List Int)) := if l = [] then none else some l
theorem lIS_optE {l : List (List Int)} : lIS (optE l) = l := by
  unfold optE
  split
  · rename_i h
    rw [h]
    rfl
  · rfl
def eHy (n : Int) (o : Option (List (List Int))) : AV := .agg [.int .i64 n, eIS o]
theorem free_eHy {n : Int} {o : Option (List (List Int))} : Free (eHy n o) := free_agg (free_cons_ free_int (free_cons_ free_eIS free_nil_))
def edges (seed : Int) (keys : List Str) (seg : Int) : List (List Int) := keys.map fun k => tri seed k seg 3
theorem edges_len {seed seg : Int} {keys : List Str} : (edges seed keys seg).length = keys.length := by simp [edges]
theorem edges_take {seed seg : Int} {keys : List Str} {i : Nat} (hi : i < keys.length) : (edges seed keys seg).take (i + 1) = (edges seed keys seg).take i ++ [tri seed (keys.getD i []) seg 3] := by
  have h1 : keys[i]?.toList = [keys.getD i []] := by simp [hi]
  unfold edges
  rw [← List.map_take, List.take_add_one, h1, List.map_append, List.map_take]
  rfl
theorem tri_some {o : Option (List Int)} {seed seg : Int} {key : Str} (h : lI o = tri seed key seg 3) : o = some (tri seed key seg 3) := by
  cases o with
  | none =>
    have := congrArg List.length h
    rw [tri_len] at this
    cases this
  | some l => exact congrArg some h
theorem S1.vwE {h : H} {n0 n : Nat} {v : AV} {l : List (List Int)} {B : List Nat} (hs : S1 h 1 v n (l.map fun e => eI (some e)) B) (hb : ∀ b ∈ B, n0 ≤ b) (hn : l = [] → v = .nils) : Vw h n0 v (eIS (optE l)) := by
  have hvw := hs.vw (ts := l.map fun e => eI (some e)) hb rfl (one_map fun _ => rfl) (fun i y t hy ht => by
    rw [hy] at ht
    injection ht with ht
    subst ht
    obtain ⟨s, _, rfl⟩ := List.mem_map.1 (List.mem_of_getElem? hy)
    exact .free free_eI)
  unfold optE
  by_cases hl : l = []
  · have := hn hl
    subst this hl
    exact .free free_nils
  · rw [if_neg hl]
    rcases hvw with ⟨h0, _, _⟩ | ⟨_, hv⟩
    · have := hs.1
      simp at this
      exact absurd (List.eq_nil_of_length_eq_zero (by omega)) hl
    · have : l.length = n := by simpa using hs.1
      subst this
      exact hv
/-- The edges so far, in a box. -/
def HyI (h h' : H) (n : Int) (E : List (List Int)) : Prop :=
  h'.cells h.length = some [.int .i64 0, .nils] ∧ ∃ v B, h'.cells (h.length + 1) = some [.int .i64 n, v] ∧ S1 h' 1 v E.length (E.map fun e => eI (some e)) B ∧ (∀ b ∈ B, h.length + 2 ≤ b) ∧ (E = [] → v = .nils)

attribute [push_cast] lenA_eIS iaddr_eIS get_IS one_eIS cellsOf_eIS one_eI_ cellsOf_eI_ fillA_eI
set_option maxHeartbeats 1000000 in
theorem c_spec_peHyper (seed : Int) (keys : Option (List Str)) (seg : Int) (h1 : 0 ≤ seed) (h2 : seed ≤ 9999) (h3 : 1 ≤ seg) (h4 : seg ≤ 24) (hk : (lS keys).length ≤ 1000) : Fn Tryz.prog 97 [.int .i64 seed, eS keys, .int .i64 seg] (· = eHy (3 * seg) (optE (edges seed (lS keys) seg))) := by
  refine Fn.froze_ fun h => ?_
  refine enter (by kernel_rfl) e97 (by kernel_rfl) rfl fun hok => ?_
  simp only [r97, initEnv_3]
  (try (simp (disch := first | omega | (simp <;> omega) | fail) only [push_cast, ↓reduceIte, Nat.reduceEqDiff, Nat.reduceAdd, Nat.reduceMul, Nat.reduceSub, Nat.reduceLT, Int.reduceToNat]))
  refine T_for (lS keys).length (fun i e h' => Pins e [(0, .int .i64 seed), (2, .int .i64 seg), (6, .adr h.length 0), (7, .adr (h.length + 1) 0), (13, eS keys), (14, .int .i64 (lS keys).length), (15, .int .i64 i)] ∧ HyI h h' (3 * seg) ((edges seed (lS keys) seg).take i)) ?_ ?_
  · (try (simp (disch := first | omega | (simp <;> omega) | fail) only [push_cast, ↓reduceIte, Nat.reduceEqDiff, Nat.reduceAdd, Nat.reduceMul, Nat.reduceSub, Nat.reduceLT, Int.reduceToNat]))
    all_goals (try exact ⟨by rw [cells_h0]; rfl, .nils, [], by rw [cells_hk]; rfl, by simpa using S1.nil, by simp, fun _ => rfl⟩)
  rintro i e h' hi ⟨hp, hr⟩
  refine T_pins hp fun e => ?_
  obtain ⟨q1, v, B, q2, q3, q4, q5⟩ := hr
  have hl2 := cells_lt q2
  (try (simp (disch := first | omega | (simp <;> omega) | fail) only [push_cast, ↓reduceIte, Nat.reduceEqDiff, Nat.reduceAdd, Nat.reduceMul, Nat.reduceSub, Nat.reduceLT, Int.reduceToNat]))
  first | refine goC_split (fun hc => ?_) (fun hc => ?_) | refine cnd_split (fun hc => ?_) (fun hc => ?_)
  · (try (simp only [decide_eq_true_eq, decide_eq_false_iff_not, Bool.not_eq_true', Bool.not_eq_false', Bool.and_eq_true, Bool.or_eq_true, Int.not_lt, Int.not_le] at hc)); (try (simp (disch := first | omega | (simp <;> omega) | fail) only [push_cast, ↓reduceIte, Nat.reduceEqDiff, Nat.reduceAdd, Nat.reduceMul, Nat.reduceSub, Nat.reduceLT, Int.reduceToNat]))
    have hi2 : i < (lS keys).length := by omega
    have htk := edges_take (seed := seed) (seg := seg) hi2
    have hlen : ((edges seed (lS keys) seg).take i).length = i := by
      rw [List.length_take, edges_len]
      omega
    rw [hlen] at q3
    generalize (lS keys).getD i [] = key at *
    have q1' : ∀ l, H.cells (h' ++ l) h.length = some [.int .i64 0, .nils] := fun l => cells_app q1
    have q2' : ∀ l, H.cells (h' ++ l) (h.length + 1) = some [.int .i64 (3 * seg), v] := fun l => cells_app q2
    have hone := q3.one_
    have fin : ∀ (h2 : H) (v' : AV) (B' : List Nat), S1 h2 1 v' (i + 1) (((edges seed (lS keys) seg).take i).map (fun e => eI (some e)) ++ [eI (some (tri seed key seg 3))]) B' → h'.length < h2.length → (∀ b, b < h'.length → b ∉ B → h2[b]? = h'[b]?) → (∀ b ∈ B', b ∈ B ∨ h'.length ≤ b) →
        h2.cells (h.length + 1) = some [.int .i64 (3 * seg), v] ∧ one v' = true ∧ cellsOf v' = [v'] ∧ HyI h (wr h2 (h.length + 1) [.int .i64 (3 * seg), v']) (3 * seg) ((edges seed (lS keys) seg).take (i + 1)) := fun h2 v' B' a1 a2 a3 a4 => by
      have hnB : h.length + 1 ∉ B := fun hb => by have := q4 _ hb; omega
      have hnB0 : h.length ∉ B := fun hb => by have := q4 _ hb; omega
      have ho := a1.one_
      have hB' : ∀ b ∈ B', h.length + 2 ≤ b := fun b hb => by
        rcases a4 b hb with h5 | h5
        · exact q4 b h5
        · omega
      refine ⟨cells_keep (a3 _ hl2 hnB) q2, ho.1, ho.2, ?_, v', B', cells_wr2 (by omega), ?_, hB', ?_⟩
      · rw [cells_eq]
        unfold wr
        rw [List.getElem?_set_ne (by omega), ← cells_eq]
        exact cells_keep (a3 _ (by omega) hnB0) q1
      · rw [htk, List.map_append, List.length_append, hlen]
        exact a1.frame fun b hb => by
          unfold wr
          rw [List.getElem?_set_ne (by have := hB' b hb; omega)]
      · rw [htk]
        intro h5
        simp at h5
    (try (simp (disch := first | omega | (simp <;> omega) | fail) only [push_cast, ↓reduceIte, Nat.reduceEqDiff, Nat.reduceAdd, Nat.reduceMul, Nat.reduceSub, Nat.reduceLT, Int.reduceToNat, q2, q2', reads, List.mem_cons, List.mem_append, List.not_mem_nil, nat_ff, or_self, or_false, false_or, not_false_eq_true]))
    repeat' (with_reducible refine And.intro ?_ ?_)
    all_goals
      refine (c_spec_peTriple seed key seg h1 h2 h3 h4).use ?_
      rintro x ⟨o, rfl, ho⟩
      rw [tri_some ho]
      (try (simp (disch := first | omega | (simp <;> omega) | fail) only [push_cast, ↓reduceIte, Nat.reduceEqDiff, Nat.reduceAdd, Nat.reduceMul, Nat.reduceSub, Nat.reduceLT, Int.reduceToNat, q2, q2', reads, List.mem_cons, List.mem_append, List.not_mem_nil, nat_ff, or_self, or_false, false_or, not_false_eq_true]))
      repeat' (with_reducible refine And.intro ?_ ?_)
    all_goals (try
      (refine (q3.frame (h' := h' ++ _) fun b hb => List.getElem?_append_left (q3.lt b hb)).app (new := [eI (some (tri seed key seg 3))]) (k := 1) (fun b hb => Or.inr (by have := q4 b hb; omega)) rfl (by decide) (by omega) fun v' h2 B' a1 a2 a3 a4 => ?_
       simp only [List.length_append, List.length_cons, List.length_nil] at a2 a3 a4
       obtain ⟨f1, f2, f3, f4⟩ := fin h2 v' B' a1 (by omega) (fun b hb hn => (a3 b (by omega) hn).trans (List.getElem?_append_left hb)) (fun b hb => by rcases a4 b hb with h5 | h5; exact .inl h5; exact .inr (by omega))
       (try (simp (disch := first | omega | (simp <;> omega) | fail) only [push_cast, ↓reduceIte, Nat.reduceEqDiff, Nat.reduceAdd, Nat.reduceMul, Nat.reduceSub, Nat.reduceLT, Int.reduceToNat, f1, f2, f3, reads, List.mem_cons, List.mem_append, List.not_mem_nil, nat_ff, or_self, or_false, false_or, not_false_eq_true]))
       try exact f4))
  · (try (simp only [decide_eq_true_eq, decide_eq_false_iff_not, Bool.not_eq_true', Bool.not_eq_false', Bool.and_eq_true, Bool.or_eq_true, Int.not_lt, Int.not_le] at hc)); (try (simp (disch := first | omega | (simp <;> omega) | fail) only [push_cast, ↓reduceIte, Nat.reduceEqDiff, Nat.reduceAdd, Nat.reduceMul, Nat.reduceSub, Nat.reduceLT, Int.reduceToNat]))
    have hie : i = (lS keys).length := by omega
    subst hie
    rw [show (edges seed (lS keys) seg).take (lS keys).length = edges seed (lS keys) seg from List.take_of_length_le (by rw [edges_len]; omega)] at q3 q5
    have hw := cells_wr2 (h := h') (b := h.length) (by omega) (cs := [AV.int .i64 (3 * seg), v])
    have hone := q3.one_
    have hpm : (h.length ≤ h.length) = True := by simp
    (try (simp (disch := first | omega | (simp <;> omega) | fail) only [push_cast, ↓reduceIte, Nat.reduceEqDiff, Nat.reduceAdd, Nat.reduceMul, Nat.reduceSub, Nat.reduceLT, Int.reduceToNat, q1, q2, hw, hone.1, hone.2, hpm]))
    refine ⟨_, .agg (ts := [.int .i64 (3 * seg), eIS (optE (edges seed (lS keys) seg))]) rfl (fun k y t hy ht => ?_), rfl⟩
    rcases k with _ | _ | k
    · simp at hy ht
      subst hy ht
      exact .free free_int
    · simp at hy ht
      subst hy ht
      refine S1.vwE (q3.frame fun b hb => ?_) (fun b hb => by have := q4 b hb; omega) q5
      unfold wr
      rw [List.getElem?_set_ne (by have := q4 b hb; omega)]
    · simp at hy

set_option maxHeartbeats 1000000 in
theorem c_impl_hyper (seed : Int) (keys : Option (List Str)) (seg : Int) (h1 : 0 ≤ seed) (h2 : seed ≤ 9999) (h3 : 1 ≤ seg) (h4 : seg ≤ 24) (hk : (lS keys).length ≤ 1000) : Fn Tryz.prog 81 [.int .i64 seed, eS keys, .int .i64 seg] (· = eHy (3 * seg) (optE (edges seed (lS keys) seg))) := by
  refine Fn.froze_ fun h => ?_
  refine enter (by kernel_rfl) e81 (by kernel_rfl) rfl fun hok => ?_
  simp only [r81, initEnv_3]
  (try (simp (disch := first | omega | (simp <;> omega) | fail) only [push_cast, ↓reduceIte, Nat.reduceEqDiff, Nat.reduceAdd, Nat.reduceMul, Nat.reduceSub, Nat.reduceLT, Int.reduceToNat]))
  refine T_for (lS keys).length (fun i e h' => Pins e [(0, .int .i64 seed), (2, .int .i64 seg), (6, .adr h.length 0), (7, .adr (h.length + 1) 0), (13, eS keys), (14, .int .i64 (lS keys).length), (15, .int .i64 i)] ∧ HyI h h' (3 * seg) ((edges seed (lS keys) seg).take i)) ?_ ?_
  · (try (simp (disch := first | omega | (simp <;> omega) | fail) only [push_cast, ↓reduceIte, Nat.reduceEqDiff, Nat.reduceAdd, Nat.reduceMul, Nat.reduceSub, Nat.reduceLT, Int.reduceToNat]))
    all_goals (try exact ⟨by rw [cells_h0]; rfl, .nils, [], by rw [cells_hk]; rfl, by simpa using S1.nil, by simp, fun _ => rfl⟩)
  rintro i e h' hi ⟨hp, hr⟩
  refine T_pins hp fun e => ?_
  obtain ⟨q1, v, B, q2, q3, q4, q5⟩ := hr
  have hl2 := cells_lt q2
  (try (simp (disch := first | omega | (simp <;> omega) | fail) only [push_cast, ↓reduceIte, Nat.reduceEqDiff, Nat.reduceAdd, Nat.reduceMul, Nat.reduceSub, Nat.reduceLT, Int.reduceToNat]))
  first | refine goC_split (fun hc => ?_) (fun hc => ?_) | refine cnd_split (fun hc => ?_) (fun hc => ?_)
  · (try (simp only [decide_eq_true_eq, decide_eq_false_iff_not, Bool.not_eq_true', Bool.not_eq_false', Bool.and_eq_true, Bool.or_eq_true, Int.not_lt, Int.not_le] at hc)); (try (simp (disch := first | omega | (simp <;> omega) | fail) only [push_cast, ↓reduceIte, Nat.reduceEqDiff, Nat.reduceAdd, Nat.reduceMul, Nat.reduceSub, Nat.reduceLT, Int.reduceToNat]))
    have hi2 : i < (lS keys).length := by omega
    have htk := edges_take (seed := seed) (seg := seg) hi2
    have hlen : ((edges seed (lS keys) seg).take i).length = i := by
      rw [List.length_take, edges_len]
      omega
    rw [hlen] at q3
    generalize (lS keys).getD i [] = key at *
    have q1' : ∀ l, H.cells (h' ++ l) h.length = some [.int .i64 0, .nils] := fun l => cells_app q1
    have q2' : ∀ l, H.cells (h' ++ l) (h.length + 1) = some [.int .i64 (3 * seg), v] := fun l => cells_app q2
    have hone := q3.one_
    have fin : ∀ (h2 : H) (v' : AV) (B' : List Nat), S1 h2 1 v' (i + 1) (((edges seed (lS keys) seg).take i).map (fun e => eI (some e)) ++ [eI (some (tri seed key seg 3))]) B' → h'.length < h2.length → (∀ b, b < h'.length → b ∉ B → h2[b]? = h'[b]?) → (∀ b ∈ B', b ∈ B ∨ h'.length ≤ b) →
        h2.cells (h.length + 1) = some [.int .i64 (3 * seg), v] ∧ one v' = true ∧ cellsOf v' = [v'] ∧ HyI h (wr h2 (h.length + 1) [.int .i64 (3 * seg), v']) (3 * seg) ((edges seed (lS keys) seg).take (i + 1)) := fun h2 v' B' a1 a2 a3 a4 => by
      have hnB : h.length + 1 ∉ B := fun hb => by have := q4 _ hb; omega
      have hnB0 : h.length ∉ B := fun hb => by have := q4 _ hb; omega
      have ho := a1.one_
      have hB' : ∀ b ∈ B', h.length + 2 ≤ b := fun b hb => by
        rcases a4 b hb with h5 | h5
        · exact q4 b h5
        · omega
      refine ⟨cells_keep (a3 _ hl2 hnB) q2, ho.1, ho.2, ?_, v', B', cells_wr2 (by omega), ?_, hB', ?_⟩
      · rw [cells_eq]
        unfold wr
        rw [List.getElem?_set_ne (by omega), ← cells_eq]
        exact cells_keep (a3 _ (by omega) hnB0) q1
      · rw [htk, List.map_append, List.length_append, hlen]
        exact a1.frame fun b hb => by
          unfold wr
          rw [List.getElem?_set_ne (by have := hB' b hb; omega)]
      · rw [htk]
        intro h5
        simp at h5
    (try (simp (disch := first | omega | (simp <;> omega) | fail) only [push_cast, ↓reduceIte, Nat.reduceEqDiff, Nat.reduceAdd, Nat.reduceMul, Nat.reduceSub, Nat.reduceLT, Int.reduceToNat, q2, q2', reads, List.mem_cons, List.mem_append, List.not_mem_nil, nat_ff, or_self, or_false, false_or, not_false_eq_true]))
    repeat' (with_reducible refine And.intro ?_ ?_)
    all_goals
      refine (c_impl_threePlaces seed key seg h1 h2 h3 h4).use ?_
      rintro x ⟨o, rfl, ho⟩
      rw [tri_some ho]
      (try (simp (disch := first | omega | (simp <;> omega) | fail) only [push_cast, ↓reduceIte, Nat.reduceEqDiff, Nat.reduceAdd, Nat.reduceMul, Nat.reduceSub, Nat.reduceLT, Int.reduceToNat, q2, q2', reads, List.mem_cons, List.mem_append, List.not_mem_nil, nat_ff, or_self, or_false, false_or, not_false_eq_true]))
      repeat' (with_reducible refine And.intro ?_ ?_)
    all_goals (try
      (refine (q3.frame (h' := h' ++ _) fun b hb => List.getElem?_append_left (q3.lt b hb)).app (new := [eI (some (tri seed key seg 3))]) (k := 1) (fun b hb => Or.inr (by have := q4 b hb; omega)) rfl (by decide) (by omega) fun v' h2 B' a1 a2 a3 a4 => ?_
       simp only [List.length_append, List.length_cons, List.length_nil] at a2 a3 a4
       obtain ⟨f1, f2, f3, f4⟩ := fin h2 v' B' a1 (by omega) (fun b hb hn => (a3 b (by omega) hn).trans (List.getElem?_append_left hb)) (fun b hb => by rcases a4 b hb with h5 | h5; exact .inl h5; exact .inr (by omega))
       (try (simp (disch := first | omega | (simp <;> omega) | fail) only [push_cast, ↓reduceIte, Nat.reduceEqDiff, Nat.reduceAdd, Nat.reduceMul, Nat.reduceSub, Nat.reduceLT, Int.reduceToNat, f1, f2, f3, reads, List.mem_cons, List.mem_append, List.not_mem_nil, nat_ff, or_self, or_false, false_or, not_false_eq_true]))
       try exact f4))
  · (try (simp only [decide_eq_true_eq, decide_eq_false_iff_not, Bool.not_eq_true', Bool.not_eq_false', Bool.and_eq_true, Bool.or_eq_true, Int.not_lt, Int.not_le] at hc)); (try (simp (disch := first | omega | (simp <;> omega) | fail) only [push_cast, ↓reduceIte, Nat.reduceEqDiff, Nat.reduceAdd, Nat.reduceMul, Nat.reduceSub, Nat.reduceLT, Int.reduceToNat]))
    have hie : i = (lS keys).length := by omega
    subst hie
    rw [show (edges seed (lS keys) seg).take (lS keys).length = edges seed (lS keys) seg from List.take_of_length_le (by rw [edges_len]; omega)] at q3 q5
    have hw := cells_wr2 (h := h') (b := h.length) (by omega) (cs := [AV.int .i64 (3 * seg), v])
    have hone := q3.one_
    have hpm : (h.length ≤ h.length) = True := by simp
    (try (simp (disch := first | omega | (simp <;> omega) | fail) only [push_cast, ↓reduceIte, Nat.reduceEqDiff, Nat.reduceAdd, Nat.reduceMul, Nat.reduceSub, Nat.reduceLT, Int.reduceToNat, q1, q2, hw, hone.1, hone.2, hpm]))
    refine ⟨_, .agg (ts := [.int .i64 (3 * seg), eIS (optE (edges seed (lS keys) seg))]) rfl (fun k y t hy ht => ?_), rfl⟩
    rcases k with _ | _ | k
    · simp at hy ht
      subst hy ht
      exact .free free_int
    · simp at hy ht
      subst hy ht
      refine S1.vwE (q3.frame fun b hb => ?_) (fun b hb => by have := q4 b hb; omega) q5
      unfold wr
      rw [List.getElem?_set_ne (by have := q4 b hb; omega)]
    · simp at hy

theorem c_Clone_bools_own (l : List Bool) (hl : l.length ≤ 1000000) (h : H) : Call Tryz.prog 151 [eO (some l)] h Nowhere (fun x h' => ∃ b, x = .sl b 0 1 l.length l.length ∧ h.length ≤ b ∧ (∃ p, h' = h ++ p) ∧ h'.cells b = some (l.map .bool)) := by
  show Call Tryz.prog 151 [.ro 1 (l.map .bool) l.length] h Nowhere _
  refine enter (by kernel_rfl) e151 (by kernel_rfl) rfl fun hok => ?_
  simp only [r151, initEnv_1]
  (try (simp (disch := first | omega | (simp <;> omega) | fail) only [push_cast, ↓reduceIte, Nat.reduceEqDiff, Nat.reduceAdd, Nat.reduceMul, Nat.reduceSub, Nat.reduceLT, Int.reduceToNat]))
  by_cases h0 : l.length = 0
  · have hl0 : l = [] := List.eq_nil_of_length_eq_zero h0
    subst hl0
    (try (simp (disch := first | omega | (simp <;> omega) | fail) only [push_cast, ↓reduceIte, Nat.reduceEqDiff, Nat.reduceAdd, Nat.reduceMul, Nat.reduceSub, Nat.reduceLT, Int.reduceToNat, lO]))
    all_goals (try exact ⟨_, rfl, Nat.le_refl _, ⟨_, rfl⟩, by rw [cells_h0]; rfl⟩)
  · (try (simp (disch := first | omega | (simp <;> omega) | fail) only [push_cast, ↓reduceIte, Nat.reduceEqDiff, Nat.reduceAdd, Nat.reduceMul, Nat.reduceSub, Nat.reduceLT, Int.reduceToNat, lO]))
    all_goals (try exact ⟨_, rfl, by omega, ⟨_, rfl⟩, by rw [cells_hk]; simp [cellsO, List.take_of_length_le]⟩)
theorem c_Clone_bools (l : List Bool) (hl : l.length ≤ 1000000) : Fn Tryz.prog 151 [eO (some l)] (· = eO (some l)) := by
  refine Fn.froze_ fun h => (c_Clone_bools_own l hl h).mono (fun x h' hx => ?_) (fun _ _ h => h)
  obtain ⟨b, rfl, hb, _, hc⟩ := hx
  exact ⟨_, vw_all hb hc (by simp) (one_map fun _ => rfl) (free_map_ fun _ => free_bool), rfl⟩

theorem c_slices_Index_int (a : Option (List Int)) (v : Int) : Fn Tryz.prog 182 [eI a, .int .i64 v] (fun x => ∃ n : Int, x = .int .i64 n ∧ decide (0 ≤ n) = decide (v ∈ lI a)) := by
  intro h
  refine Call.gc (Call.mono (?_ : Call Tryz.prog 182 [eI a, .int .i64 v] h Nowhere (fun x _ => ∃ n : Int, x = .int .i64 n ∧ decide (0 ≤ n) = decide (v ∈ lI a))) (fun x _ ⟨n, hn, hx⟩ => ⟨⟨n, hn, hx⟩, by rw [hn]; exact free_int⟩) (fun _ _ h => h))
  refine enter (by kernel_rfl) e182 (by kernel_rfl) rfl fun hok => ?_
  simp only [r182, initEnv_2]
  have hlen := ok_eI (okV_0 hok)
  (try (simp (disch := first | omega | (simp <;> omega) | fail) only [push_cast, ↓reduceIte, Nat.reduceEqDiff, Nat.reduceAdd, Nat.reduceMul, Nat.reduceSub, Nat.reduceLT, Int.reduceToNat]))
  refine T_for (lI a).length (fun i e h' => Pins e [(0, eI a), (1, .int .i64 v), (7, .int .i64 (lI a).length), (8, .int .i64 i)] ∧ h' = h ∧ v ∉ (lI a).take i) ?_ ?_
  · (try (simp (disch := first | omega | (simp <;> omega) | fail) only [push_cast, ↓reduceIte, Nat.reduceEqDiff, Nat.reduceAdd, Nat.reduceMul, Nat.reduceSub, Nat.reduceLT, Int.reduceToNat]))
    all_goals (try simp)
  rintro i e h' hi ⟨hp, rfl, ha⟩
  refine T_pins hp fun e => ?_
  (try (simp (disch := first | omega | (simp <;> omega) | fail) only [push_cast, ↓reduceIte, Nat.reduceEqDiff, Nat.reduceAdd, Nat.reduceMul, Nat.reduceSub, Nat.reduceLT, Int.reduceToNat]))
  first | refine goC_split (fun hc => ?_) (fun hc => ?_) | refine cnd_split (fun hc => ?_) (fun hc => ?_)
  · (try (simp only [decide_eq_true_eq, decide_eq_false_iff_not, Bool.not_eq_true', Bool.not_eq_false', Bool.and_eq_true, Bool.or_eq_true, Int.not_lt, Int.not_le] at hc)); (try (simp (disch := first | omega | (simp <;> omega) | fail) only [push_cast, ↓reduceIte, Nat.reduceEqDiff, Nat.reduceAdd, Nat.reduceMul, Nat.reduceSub, Nat.reduceLT, Int.reduceToNat]))
    have hi2 : i < (lI a).length := by omega
    have htk : (lI a).take (i + 1) = (lI a).take i ++ [(lI a).getD i 0] := by
      rw [List.take_add_one]
      simp [hi2]
    have hmem : (lI a).getD i 0 ∈ lI a := by simp [hi2]
    (try (simp (disch := first | omega | (simp <;> omega) | fail) only [push_cast, ↓reduceIte, Nat.reduceEqDiff, Nat.reduceAdd, Nat.reduceMul, Nat.reduceSub, Nat.reduceLT, Int.reduceToNat]))
    first | refine goC_split (fun hd => ?_) (fun hd => ?_) | refine cnd_split (fun hd => ?_) (fun hd => ?_)
    · (try (simp only [decide_eq_true_eq, decide_eq_false_iff_not, Bool.not_eq_true', Bool.not_eq_false', Bool.and_eq_true, Bool.or_eq_true, Int.not_lt, Int.not_le] at hd)); (try (simp (disch := first | omega | (simp <;> omega) | fail) only [push_cast, ↓reduceIte, Nat.reduceEqDiff, Nat.reduceAdd, Nat.reduceMul, Nat.reduceSub, Nat.reduceLT, Int.reduceToNat]))
      refine ⟨_, rfl, ?_⟩
      rw [decide_eq_true (show v ∈ lI a by rw [hd]; exact hmem)]
      simp
    · (try (simp only [decide_eq_true_eq, decide_eq_false_iff_not, Bool.not_eq_true', Bool.not_eq_false', Bool.and_eq_true, Bool.or_eq_true, Int.not_lt, Int.not_le] at hd)); (try (simp (disch := first | omega | (simp <;> omega) | fail) only [push_cast, ↓reduceIte, Nat.reduceEqDiff, Nat.reduceAdd, Nat.reduceMul, Nat.reduceSub, Nat.reduceLT, Int.reduceToNat]))
      have : v ∉ (lI a).take (i + 1) := by
        rw [htk, List.mem_append, List.mem_singleton]
        exact fun h5 => h5.elim ha hd
      (try (simp (disch := first | omega | (simp <;> omega) | fail) only [push_cast, ↓reduceIte, Nat.reduceEqDiff, Nat.reduceAdd, Nat.reduceMul, Nat.reduceSub, Nat.reduceLT, Int.reduceToNat]))
      all_goals (try exact this)
  · (try (simp only [decide_eq_true_eq, decide_eq_false_iff_not, Bool.not_eq_true', Bool.not_eq_false', Bool.and_eq_true, Bool.or_eq_true, Int.not_lt, Int.not_le] at hc)); (try (simp (disch := first | omega | (simp <;> omega) | fail) only [push_cast, ↓reduceIte, Nat.reduceEqDiff, Nat.reduceAdd, Nat.reduceMul, Nat.reduceSub, Nat.reduceLT, Int.reduceToNat]))
    have : (lI a).take i = lI a := List.take_of_length_le (by omega)
    rw [this] at ha
    refine ⟨_, rfl, ?_⟩
    rw [decide_eq_false ha]
    rfl

theorem c_slices_Contains_int (a : Option (List Int)) (v : Int) : Fn Tryz.prog 154 [eI a, .int .i64 v] (· = .bool (decide (v ∈ lI a))) := by
  refine Fn.of free_bool fun h => ?_
  refine enter (by kernel_rfl) e154 (by kernel_rfl) rfl fun hok => ?_
  simp only [r154, initEnv_2]
  (try (simp (disch := first | omega | (simp <;> omega) | fail) only [push_cast, ↓reduceIte, Nat.reduceEqDiff, Nat.reduceAdd, Nat.reduceMul, Nat.reduceSub, Nat.reduceLT, Int.reduceToNat]))
  refine (c_slices_Index_int a v).use ?_
  rintro x ⟨n, rfl, hn⟩
  rw [← hn]
  (try (simp (disch := first | omega | (simp <;> omega) | fail) only [push_cast, ↓reduceIte, Nat.reduceEqDiff, Nat.reduceAdd, Nat.reduceMul, Nat.reduceSub, Nat.reduceLT, Int.reduceToNat]))
  (first | refine goC_split (fun hc => ?_) (fun hc => ?_) | refine cnd_split (fun hc => ?_) (fun hc => ?_)) <;> ((try (simp (disch := first | omega | (simp <;> omega) | fail) only [push_cast, ↓reduceIte, Nat.reduceEqDiff, Nat.reduceAdd, Nat.reduceMul, Nat.reduceSub, Nat.reduceLT, Int.reduceToNat]))) <;> (try rw [hc])

theorem c_impl_systemOf_1 (a : List Int) (i : Int) : Fn Tryz.prog 153 [.int .i64 i, .rad [eI (some a)] 0] (· = .bool (decide (i ∈ a))) := by
  refine Fn.of free_bool fun h => ?_
  refine enter (by kernel_rfl) e153 (by kernel_rfl) rfl fun hok => ?_
  simp only [r153, initEnv_2]
  (try (simp (disch := first | omega | (simp <;> omega) | fail) only [push_cast, ↓reduceIte, Nat.reduceEqDiff, Nat.reduceAdd, Nat.reduceMul, Nat.reduceSub, Nat.reduceLT, Int.reduceToNat]))
  refine (c_slices_Contains_int (some a) i).call ?_
  have hl : lI (some a) = a := rfl
  rw [hl]
  (try (simp (disch := first | omega | (simp <;> omega) | fail) only [push_cast, ↓reduceIte, Nat.reduceEqDiff, Nat.reduceAdd, Nat.reduceMul, Nat.reduceSub, Nat.reduceLT, Int.reduceToNat]))

theorem c_impl_words (n : Int) (h0 : 0 ≤ n) (h1 : n ≤ 1000000000) : Fn Tryz.prog 157 [.int .i64 n] (· = .int .i64 ((n + 15) / 16)) := by
  refine Fn.of free_int fun h => ?_
  refine enter (by kernel_rfl) e157 (by kernel_rfl) rfl fun hok => ?_
  simp only [r157, initEnv_1]
  (try (simp (disch := first | omega | (simp <;> omega) | fail) only [push_cast, ↓reduceIte, Nat.reduceEqDiff, Nat.reduceAdd, Nat.reduceMul, Nat.reduceSub, Nat.reduceLT, Int.reduceToNat]))
  all_goals (try omega)

theorem c_impl_blank_own (n m : Nat) (hn : n ≤ 1000000) (hm : (((n : Int) + 15) / 16) = (m : Int)) (h : H) : Call Tryz.prog 104 [.int .i64 n] h Nowhere (fun x h' => BnI h h' n m x) := by
  refine enter (by kernel_rfl) e104 (by kernel_rfl) rfl fun hok => ?_
  simp only [r104, initEnv_1]
  (try (simp (disch := first | omega | (simp <;> omega) | fail) only [push_cast, ↓reduceIte, Nat.reduceEqDiff, Nat.reduceAdd, Nat.reduceMul, Nat.reduceSub, Nat.reduceLT, Int.reduceToNat]))
  refine (c_impl_words n (by omega) (by omega)).call ?_
  (try (simp (disch := first | omega | (simp <;> omega) | fail) only [push_cast, ↓reduceIte, Nat.reduceEqDiff, Nat.reduceAdd, Nat.reduceMul, Nat.reduceSub, Nat.reduceLT, Int.reduceToNat, hm]))
  all_goals (try exact ⟨h.length + 1, rfl, by omega, ⟨_, rfl⟩, by rw [cells_hk]; simp [cellsO, rep_words]⟩)

theorem c_impl_Bits_set (m B i b5 o bb : Nat) (on : Bool) (cs : List AV) (h : H) (h5 : h.cells b5 = some cs) (h1 : cs[o + 1]? = some (.sl bb 0 1 m m)) (hb : h.cells bb = some ((wordsN B m).map (.int .i64))) (hi : i < 16 * m) (hm : m ≤ 1000) (hne : b5 ≠ bb) :
    Call Tryz.prog 143 [.adr b5 o, .int .i64 i, .bool on] h (fun b' => b' = bb) (fun _ h' => h'.length = h.length ∧ (∀ c, c ≠ bb → h'[c]? = h[c]?) ∧ h'.cells bb = some ((wordsN (setB B i on) m).map (.int .i64))) := by
  refine enter (by kernel_rfl) e143 (by kernel_rfl) rfl fun hok => ?_
  simp only [r143, initEnv_3]
  have hbl := cells_lt hb
  have e1 : ((i : Int) / 16).toNat = i / 16 := by omega
  have e2 : ((i : Int) % 16).toNat = i % 16 := by omega
  obtain ⟨v, hv⟩ : ∃ v : Nat, v = 2 ^ (i % 16) := ⟨_, rfl⟩
  have hvl : v < 65536 := by
    rw [hv]
    have : 2 ^ (i % 16) < 2 ^ 16 := Nat.pow_lt_pow_right (by decide) (by omega)
    simpa using this
  have hsh := shl16 (j := i % 16) (by omega)
  rw [← hv] at hsh
  have hwl := wordN_lt (B := B) (k := i / 16)
  obtain ⟨r, hr⟩ : ∃ r : Nat, r = wordN B (i / 16) ^^^ (wordN B (i / 16) &&& v) := ⟨_, rfl⟩
  have han := bitsI_andNot (x := wordN B (i / 16)) (y := v) (by omega) (by omega)
  rw [← hr] at han
  have hlen : ((wordsN B m).map (AV.int .i64)).length = m := by simp [wordsN_len]
  have hgi : ((wordsN B m).map (AV.int .i64))[i / 16]? = some (.int .i64 (wordN B (i / 16) : Int)) := by
    rw [get_I (by rw [wordsN_len]; omega), wordsN_get (by omega)]
  obtain ⟨C, hC⟩ : ∃ C, C = B ^^^ (B &&& 2 ^ i) := ⟨_, rfl⟩
  have hos : over ((wordsN B m).map (AV.int .i64)) (i / 16) [.int .i64 (r : Int)] = (wordsN C m).map (.int .i64) := by
    rw [over_set (by rw [hlen]; omega), hC, ← wordsN_clr hi, ← hv, ← hr, List.map_set]
  have hpm : (bb = bb) = True := by simp
  have w5 : H.cells (wr h bb ((wordsN C m).map (.int .i64))) b5 = some cs := by
    rw [cells_eq]
    unfold wr
    rw [List.getElem?_set_ne (Ne.symm hne), ← cells_eq]
    exact h5
  have wb : H.cells (wr h bb ((wordsN C m).map (.int .i64))) bb = some ((wordsN C m).map (.int .i64)) := cells_wr2 hbl
  have hlen2 : ((wordsN C m).map (AV.int .i64)).length = m := by simp [wordsN_len]
  have hgi2 : ((wordsN C m).map (AV.int .i64))[i / 16]? = some (.int .i64 (wordN C (i / 16) : Int)) := by
    rw [get_I (by rw [wordsN_len]; omega), wordsN_get (by omega)]
  have hwl2 := wordN_lt (B := C) (k := i / 16)
  obtain ⟨r2, hr2⟩ : ∃ r : Nat, r = wordN C (i / 16) ||| v := ⟨_, rfl⟩
  have hor := bitsI_or (x := wordN C (i / 16)) (y := v) (by omega) (by omega)
  rw [← hr2] at hor
  have hos2 : over ((wordsN C m).map (AV.int .i64)) (i / 16) [.int .i64 (r2 : Int)] = (wordsN (C ||| 2 ^ i) m).map (.int .i64) := by
    rw [over_set (by rw [hlen2]; omega), ← wordsN_set hi, ← hv, ← hr2, List.map_set]
  have hres : setB B i on = if on then C ||| 2 ^ i else C := by
    unfold setB
    rw [hC]
    cases on <;> simp
  have hfr1 : ∀ c, c ≠ bb → (wr h bb ((wordsN C m).map (.int .i64)))[c]? = h[c]? := fun c hc => by
    unfold wr
    rw [List.getElem?_set_ne (Ne.symm hc)]
  cases on
  · rw [if_neg (by simp)] at hres
    rw [hres]
    (try (simp (disch := first | omega | (simp <;> omega) | fail) only [push_cast, ↓reduceIte, Nat.reduceEqDiff, Nat.reduceAdd, Nat.reduceMul, Nat.reduceSub, Nat.reduceLT, Int.reduceToNat, h5, h1, hb, e1, e2, hsh, hgi, han, hlen, hos, hpm, reads, List.mem_cons, List.mem_append, List.not_mem_nil, nat_ff, or_self, or_false, false_or, not_false_eq_true]))
    all_goals (try exact ⟨by simp [wr], hfr1, wb⟩)
  · rw [if_pos rfl] at hres
    rw [hres]
    (try (simp (disch := first | omega | (simp <;> omega) | fail) only [push_cast, ↓reduceIte, Nat.reduceEqDiff, Nat.reduceAdd, Nat.reduceMul, Nat.reduceSub, Nat.reduceLT, Int.reduceToNat, h5, h1, hb, e1, e2, hsh, hgi, han, hlen, hos, hpm, w5, wb, hgi2, hor, hlen2, hos2, reads, List.mem_cons, List.mem_append, List.not_mem_nil, nat_ff, or_self, or_false, false_or, not_false_eq_true]))
    all_goals (try exact ⟨by simp [wr], fun c hc => by
      unfold wr
      rw [List.getElem?_set_ne (Ne.symm hc)]
      exact hfr1 c hc, cells_wr2 (by simp [wr]; omega)⟩)

def MdI (h h' : H) (n m b9 bb x : Nat) : Prop :=
  h.length ≤ h'.length ∧ (∀ c, c < h.length → h'[c]? = h[c]?) ∧ h'.cells b9 = some [.int .i64 n, .sl bb 0 1 m m] ∧ h'.cells bb = some ((wordsN x m).map (.int .i64)) ∧ h.length + 1 ≤ bb ∧ h.length + 1 ≤ b9 ∧ b9 ≠ bb ∧ h'.cells h.length = some [.int .i64 0, .nils]
theorem MdI.put {h h' h2 : H} {n m b9 bb x y : Nat} (hr : MdI h h' n m b9 bb x) (hl : h2.length = h'.length) (hf : ∀ c, c ≠ bb → h2[c]? = h'[c]?) (hc : h2.cells bb = some ((wordsN y m).map (.int .i64))) : MdI h h2 n m b9 bb y := by
  obtain ⟨h1, h2, h3, h4, h5, h6, h7, h8⟩ := hr
  exact ⟨by omega, fun c hc => (hf c (by omega)).trans (h2 c hc), cells_keep (hf _ h7) h3, hc, h5, h6, h7, cells_keep (hf _ (by omega)) h8⟩
theorem c_impl_madeBits (n m f b0 : Nat) (cs : List AV) (g : Nat → Bool) (hn : n ≤ 1000) (hm : (((n : Int) + 15) / 16) = (m : Int)) (hg : ∀ i : Nat, Fn Tryz.prog f [.int .i64 i, .rad cs 0] (· = .bool (g i))) (hfree : ∀ c ∈ cs, Free c) (h : H) (hb : h.cells b0 = some cs) :
    Call Tryz.prog 152 [.int .i64 n, .fn f [.adr b0 0]] h Nowhere (fun x h' => ∃ bb, x = .agg [.int .i64 n, .sl bb 0 1 m m] ∧ h.length ≤ bb ∧ h.length ≤ h'.length ∧ (∀ c, c < h.length → h'[c]? = h[c]?) ∧ h'.cells bb = some ((wordsN (mkN n g) m).map (.int .i64))) := by
  refine enter (by kernel_rfl) e152 (by kernel_rfl) rfl fun hok => ?_
  simp only [r152, initEnv_2]
  have hbl := cells_lt hb
  (try (simp (disch := first | omega | (simp <;> omega) | fail) only [push_cast, ↓reduceIte, Nat.reduceEqDiff, Nat.reduceAdd, Nat.reduceMul, Nat.reduceSub, Nat.reduceLT, Int.reduceToNat]))
  refine (c_impl_blank_own n m (by omega) hm _).mono (fun x h1 hx => ?_) (fun _ _ h => h.elim)
  obtain ⟨bb, rfl, hbb, ⟨p, hp1⟩, hcb⟩ := hx
  simp only [List.length_append, List.length_cons, List.length_nil] at hbb
  have hl1 : h.length + 1 ≤ h1.length := by rw [hp1]; simp
  have hk1 : ∀ c, c < h.length → h1[c]? = h[c]? := fun c hc => by
    rw [hp1, List.append_assoc]
    exact List.getElem?_append_left hc
  have hc0 : h1.cells h.length = some [.int .i64 0, .nils] := by
    rw [hp1]
    refine cells_app ?_
    rw [cells_h0]
    rfl
  have hbl1 := cells_lt hcb
  clear hp1
  have hne : h1.length ≠ bb := by omega
  have hM0 : MdI h (h1 ++ [some (.cells [.int .i64 n, .sl bb 0 1 m m])]) n m h1.length bb (mkN 0 g) := ⟨by simp; omega, fun c hc => (List.getElem?_append_left (by omega)).trans (hk1 c hc), by rw [cells_h0]; rfl, cells_app hcb, hbb, hl1, hne, cells_app hc0⟩
  (try (simp (disch := first | omega | (simp <;> omega) | fail) only [push_cast, ↓reduceIte, Nat.reduceEqDiff, Nat.reduceAdd, Nat.reduceMul, Nat.reduceSub, Nat.reduceLT, Int.reduceToNat]))
  refine T_for n (fun i e h' => Pins e [(1, .fn f [.adr b0 0]), (4, .adr h.length 0), (5, .adr h1.length 0), (9, .int .i64 n), (10, .int .i64 i)] ∧ MdI h h' n m h1.length bb (mkN i g)) ?_ ?_
  · (try (simp (disch := first | omega | (simp <;> omega) | fail) only [push_cast, ↓reduceIte, Nat.reduceEqDiff, Nat.reduceAdd, Nat.reduceMul, Nat.reduceSub, Nat.reduceLT, Int.reduceToNat]))
    all_goals (try exact hM0)
  clear hM0
  rintro i e h' hi ⟨hp, hr⟩
  refine T_pins hp fun e => ?_
  obtain ⟨r1, r2, r3, r4, r5, r6, r7, r8⟩ := id hr
  (try (simp (disch := first | omega | (simp <;> omega) | fail) only [push_cast, ↓reduceIte, Nat.reduceEqDiff, Nat.reduceAdd, Nat.reduceMul, Nat.reduceSub, Nat.reduceLT, Int.reduceToNat]))
  first | refine goC_split (fun hc => ?_) (fun hc => ?_) | refine cnd_split (fun hc => ?_) (fun hc => ?_)
  · (try (simp only [decide_eq_true_eq, decide_eq_false_iff_not, Bool.not_eq_true', Bool.not_eq_false', Bool.and_eq_true, Bool.or_eq_true, Int.not_lt, Int.not_le] at hc)); (try (simp (disch := first | omega | (simp <;> omega) | fail) only [push_cast, ↓reduceIte, Nat.reduceEqDiff, Nat.reduceAdd, Nat.reduceMul, Nat.reduceSub, Nat.reduceLT, Int.reduceToNat]))
    have hi2 : i < n := by omega
    have hbi : h'.cells b0 = some cs := cells_keep (r2 b0 hbl) hb
    (try (simp (disch := first | omega | (simp <;> omega) | fail) only [push_cast, ↓reduceIte, Nat.reduceEqDiff, Nat.reduceAdd, Nat.reduceMul, Nat.reduceSub, Nat.reduceLT, Int.reduceToNat]))
    refine (hg i).lendL (.free free_int (.adr hbi hfree .nil)) own_bool ?_
    (try (simp (disch := first | omega | (simp <;> omega) | fail) only [push_cast, ↓reduceIte, Nat.reduceEqDiff, Nat.reduceAdd, Nat.reduceMul, Nat.reduceSub, Nat.reduceLT, Int.reduceToNat]))
    refine (c_impl_Bits_set m (mkN i g) i h1.length 0 bb (g i) _ _ r3 rfl r4 (by omega) (by omega) r7).mono (fun y h2 hy => ?_) (fun b' _ hb' => Or.inr (by omega))
    obtain ⟨y1, y2, y3⟩ := hy
    rw [← mkN_succ] at y3
    have hfin := hr.put y1 y2 y3
    (try (simp (disch := first | omega | (simp <;> omega) | fail) only [push_cast, ↓reduceIte, Nat.reduceEqDiff, Nat.reduceAdd, Nat.reduceMul, Nat.reduceSub, Nat.reduceLT, Int.reduceToNat]))
    all_goals (try exact hfin)
  · (try (simp only [decide_eq_true_eq, decide_eq_false_iff_not, Bool.not_eq_true', Bool.not_eq_false', Bool.and_eq_true, Bool.or_eq_true, Int.not_lt, Int.not_le] at hc)); (try (simp (disch := first | omega | (simp <;> omega) | fail) only [push_cast, ↓reduceIte, Nat.reduceEqDiff, Nat.reduceAdd, Nat.reduceMul, Nat.reduceSub, Nat.reduceLT, Int.reduceToNat]))
    have hie : i = n := by omega
    subst hie
    have hw := cells_wr2 (h := h') (b := h.length) (cells_lt r8) (cs := [AV.int .i64 (i : Int), .sl bb 0 1 m m])
    have hpm : (h.length ≤ h.length) = True := by simp
    have f2 : ∀ c, c < h.length → (wr h' h.length [AV.int .i64 (i : Int), .sl bb 0 1 m m])[c]? = h[c]? := fun c hc => by
      unfold wr
      rw [List.getElem?_set_ne (by omega)]
      exact r2 c hc
    have f3 : (wr h' h.length [AV.int .i64 (i : Int), .sl bb 0 1 m m]).cells bb = some ((wordsN (mkN i g) m).map (.int .i64)) := by
      rw [cells_eq]
      unfold wr
      rw [List.getElem?_set_ne (by omega), ← cells_eq]
      exact r4
    (try (simp (disch := first | omega | (simp <;> omega) | fail) only [push_cast, ↓reduceIte, Nat.reduceEqDiff, Nat.reduceAdd, Nat.reduceMul, Nat.reduceSub, Nat.reduceLT, Int.reduceToNat, r3, r8, hpm, hw]))
    all_goals (try exact ⟨bb, rfl, by omega, f2, f3⟩)
    all_goals (try exact ⟨bb, rfl, by omega, by simp [wr]; omega, f2, f3⟩)

end Go.Proofs.YtjfgmimgmapeeaaGreat.M
