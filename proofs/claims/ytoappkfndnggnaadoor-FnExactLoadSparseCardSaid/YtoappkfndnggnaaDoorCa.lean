/-
  What the functions return.
-/
import Derived.Test.YtoappkfndnggnaaDoorFa
import Derived.Lib.ItoaLen
namespace Go.Proofs.YtoappkfndnggnaaDoor.M
open Go Go.RowKit
set_option linter.unusedVariables false
set_option linter.unusedSimpArgs false
set_option maxRecDepth 4000

/-- What is left of a budget. -/
def szv (left : Int) (w : Nat) : Int := if (w : Int) ≤ left then left - w else -1
theorem szv_ok {left : Int} {w : Nat} (h : 0 ≤ szv left w) : (w : Int) ≤ left := by
  unfold szv at h
  split at h <;> omega
def wS (a : Option (List Str)) : Nat := (lS a).length + ((lS a).map List.length).sum
theorem sum_take_le (l : List Nat) (i : Nat) : (l.take i).sum ≤ l.sum := by
  have := congrArg List.sum (List.take_append_drop i l)
  rw [List.sum_append] at this
  omega
theorem sum_take_succ {l : List Nat} {i : Nat} (hi : i < l.length) : (l.take (i + 1)).sum = (l.take i).sum + l.getD i 0 := by
  rw [List.take_add_one, List.sum_append]
  simp [hi]

--eng eB cB
structure Bt where
  size : Int
  words : Option (List Int)
  deriving Inhabited
def cB (b : Bt) : List AV := [.int .i64 b.size, eI b.words]
theorem cB_len (b : Bt) : (cB b).length = 2 := rfl
def eB (b : Bt) : AV := .agg (cB b)
theorem free_cB {b : Bt} : ∀ c ∈ cB b, Free c := free_cons_ free_int (free_cons_ free_eI free_nil_)
theorem free_eB {b : Bt} : Free (eB b) := free_agg free_cB
def cpB (b : Bt) : Bt := ⟨b.size, some (lI b.words)⟩
/-- The last word has no bit behind the size. -/
def lastOk (size : Int) (ws : List Int) : Bool := decide (size % 16 = 0) || decide (Int.fdiv (ws.getD (ws.length - 1) 0) (2 ^ (min (size % 16).toNat IntKind.i64.bits)) = 0)
def okWords (ws : List Int) : Bool := ws.all fun w => decide (0 ≤ w) && decide (w ≤ 65535)
def okBt (b : Bt) : Bool := (decide (0 ≤ b.size) && decide (b.size ≤ 4096)) && (decide (((lI b.words).length : Int) = (b.size + 15) / 16) && (okWords (lI b.words) && lastOk b.size (lI b.words)))
theorem okBt_words {b : Bt} (h : okBt b = true) : ∃ B : Nat, lI b.words = wordsN B (lI b.words).length ∧ 0 ≤ b.size ∧ b.size ≤ 4096 ∧ ((lI b.words).length : Int) = (b.size + 15) / 16 := by
  simp only [okBt, okWords, Bool.and_eq_true, decide_eq_true_eq, List.all_eq_true] at h
  exact ⟨numW (lI b.words), (wordsN_num h.2.2.1).symm, h.1.1, h.1.2, h.2.1⟩
theorem ow_bits {h : H} {x : AV} {n : Int} {ws : List Int} {G : Nat → Prop} (ho : Ow h [x] [eB ⟨n, some ws⟩] G) : ∃ b, x = .agg [.int .i64 n, .sl b 0 1 ws.length ws.length] ∧ Ow h [.int .i64 n, .sl b 0 1 ws.length ws.length] (cB ⟨n, some ws⟩) G := by
  obtain ⟨cs, rfl, h1⟩ := Ow.openAgg (show Ow h [x] [.agg (cB ⟨n, some ws⟩)] G from ho)
  have hl : cs.length = 2 := h1.len.symm
  match cs, hl, h1 with
  | [x1, x2], _, h1 =>
    obtain ⟨F, F', f1, f2, _, _⟩ := h1.uncons
    have e1 : x1 = .int .i64 n := f1.atomOf rfl
    obtain ⟨b, e2⟩ := Ow.sl1 (show Ow h [x2] [.ro 1 _ _] F' from f2)
    subst e1 e2
    exact ⟨b, rfl, h1⟩

attribute [push_cast] eB cB
theorem at_word {B m i : Nat} {ws : List Int} (hw : ws = wordsN B m) (hi : i < 16 * m) : decide (bitsI .and .i64 (Int.fdiv (ws.getD ((i : Int) / 16).toNat 0) (2 ^ (min ((i : Int) % 16).toNat IntKind.i64.bits))) 1 = 1) = B.testBit i := by
  have e1 : ((i : Int) / 16).toNat = i / 16 := by omega
  have e2 : ((i : Int) % 16).toNat = i % 16 := by omega
  rw [hw, e1, e2, wordsN_get (by omega), at_bit wordN_lt (by omega), wordN_bit (by omega)]
  congr 1
  omega

theorem cells_keep {h h' : H} {b : Nat} {cs : List AV} (hk : h'[b]? = h[b]?) (hc : h.cells b = some cs) : h'.cells b = some cs := by
  rw [cells_eq, hk, ← cells_eq]
  exact hc

/-- Bits of the call's own, as they are seen. -/
theorem vw_B {h : H} {n0 b len : Nat} {n : Int} {ws : List Int} (hb : n0 ≤ b) (hc : h.cells b = some (ws.map (.int .i64))) (hl : ws.length = len) : Vw h n0 (.agg [.int .i64 n, .sl b 0 1 len len]) (eB ⟨n, some ws⟩) := by
  subst hl
  refine .agg rfl (fun i y t hy ht => ?_)
  rcases i with _ | _ | i
  · simp [cB] at hy ht
    subst hy ht
    exact .free free_int
  · simp [cB, eI] at hy ht
    subst hy ht
    exact vw_all (cs := ws.map (.int .i64)) hb hc (by simp) (one_map fun _ => rfl) (free_map_ fun _ => free_int)
  · simp at hy
/-- Bits of the call's own, as a tree. -/
theorem ow_B {h : H} {b len : Nat} {n : Int} {ws : List Int} {G : Nat → Prop} (hb : G b) (hc : h.cells b = some (ws.map (.int .i64))) (hl : ws.length = len) : Ow h [.agg [.int .i64 n, .sl b 0 1 len len]] [eB ⟨n, some ws⟩] G := by
  subst hl
  refine Ow.aggOf (ts := cB ⟨n, some ws⟩) (.atom rfl ?_)
  exact ow_map (f := AV.int .i64) (fun _ => rfl) hc rfl hb
def BnI (h h' : H) (n : Int) (m : Nat) (x : AV) : Prop := ∃ b, x = .agg [.int .i64 n, .sl b 0 1 m m] ∧ h.length ≤ b ∧ (∃ p, h' = h ++ p) ∧ h'.cells b = some ((wordsN 0 m).map (.int .i64))
theorem rep_words {m : Nat} : List.replicate m (AV.int .i64 0) = (wordsN 0 m).map (.int .i64) := by
  rw [wordsN_zero]
  simp
def leadI (n B : Nat) : Int := if lead n B < n then (lead n B : Int) else -1
theorem noBit_all {B n : Nat} (h : noBit B n = true) {j : Nat} (hj : j < n) : B.testBit j = false := by
  unfold noBit at h
  have := List.all_eq_true.1 h j (List.mem_range.2 hj)
  simpa using this

theorem c_spec_biNew_own (n m : Nat) (hn : n ≤ 1000000) (hm : (((n : Int) + 15) / 16) = (m : Int)) (h : H) : Call Tryd.prog 77 [.int .i64 n] h Nowhere (fun x h' => BnI h h' n m x) := by
  refine enter (by kernel_rfl) e77 (by kernel_rfl) rfl fun hok => ?_
  simp only [r77, initEnv_1]
  (try (simp (disch := first | omega | (simp <;> omega) | fail) only [push_cast, ↓reduceIte, Nat.reduceEqDiff, Nat.reduceAdd, Nat.reduceMul, Nat.reduceSub, Nat.reduceLT, Int.reduceToNat, hm]))
  all_goals (try exact ⟨h.length + 1, rfl, by omega, ⟨_, rfl⟩, by rw [cells_hk]; simp [cellsO, rep_words]⟩)
theorem c_spec_biNew (n m : Nat) (hn : n ≤ 1000000) (hm : (((n : Int) + 15) / 16) = (m : Int)) : Fn Tryd.prog 77 [.int .i64 n] (· = eB ⟨n, some (wordsN 0 m)⟩) :=
  Fn.froze_ fun h => (c_spec_biNew_own n m hn hm h).mono (fun x h' hx => by
    obtain ⟨b, rfl, hb, _, hc⟩ := hx
    exact ⟨_, vw_B hb hc wordsN_len, rfl⟩) (fun _ _ h => h)

theorem c_spec_biSet (n : Int) (b m B i : Nat) (h : H) (hc : h.cells b = some ((wordsN B m).map (.int .i64))) (hi : i < 16 * m) (hm : m ≤ 100000) :
    Call Tryd.prog 101 [.agg [.int .i64 n, .sl b 0 1 m m], .int .i64 i] h (fun b' => b' = b) (fun x h' => h.length ≤ h'.length ∧ (∀ b', b' < h.length → b' ≠ b → h'[b']? = h[b']?) ∧ h'.cells b = some ((wordsN (B ||| 2 ^ i) m).map (.int .i64))) := by
  refine enter (by kernel_rfl) e101 (by kernel_rfl) rfl fun hok => ?_
  simp only [r101, initEnv_2]
  have hb := cells_lt hc
  have hcb : ∀ l : H, H.cells (h ++ l) b = some ((wordsN B m).map (.int .i64)) := fun l => cells_app hc
  have e1 : ((i : Int) / 16).toNat = i / 16 := by omega
  have e2 : ((i : Int) % 16).toNat = i % 16 := by omega
  have hgd := wordsN_get (B := B) (m := m) (k := i / 16) (by omega)
  have hwl := wordN_lt (B := B) (k := i / 16)
  obtain ⟨v, hv⟩ : ∃ v : Nat, v = 2 ^ (i % 16) := ⟨_, rfl⟩
  have hvl : v < 65536 := by
    rw [hv]
    have : 2 ^ (i % 16) < 2 ^ 16 := Nat.pow_lt_pow_right (by decide) (by omega)
    simpa using this
  have hsh := shl16 (j := i % 16) (by omega)
  rw [← hv] at hsh
  obtain ⟨r, hr⟩ : ∃ r : Nat, r = wordN B (i / 16) ||| v := ⟨_, rfl⟩
  have hor := bitsI_or (x := wordN B (i / 16)) (y := v) (by omega) (by omega)
  rw [← hr] at hor
  have hset : ((wordsN B m).map (AV.int .i64)).set (i / 16) (.int .i64 (r : Int)) = (wordsN (B ||| 2 ^ i) m).map (.int .i64) := by
    rw [← wordsN_set hi, ← hv, ← hr, List.map_set]
  have hlen : ((wordsN B m).map (AV.int .i64)).length = m := by simp [wordsN_len]
  have hgi : ((wordsN B m).map (AV.int .i64))[i / 16]? = some (.int .i64 (wordN B (i / 16) : Int)) := by
    rw [get_I (by rw [wordsN_len]; omega), hgd]
  have hos : over ((wordsN B m).map (AV.int .i64)) (i / 16) [.int .i64 (r : Int)] = (wordsN (B ||| 2 ^ i) m).map (.int .i64) := by
    rw [over_set (by rw [hlen]; omega), hset]
  have hpm : (b = b) = True := by simp
  (try (simp (disch := first | omega | (simp <;> omega) | fail) only [push_cast, ↓reduceIte, Nat.reduceEqDiff, Nat.reduceAdd, Nat.reduceMul, Nat.reduceSub, Nat.reduceLT, Int.reduceToNat, hcb, e1, e2, hgi, hsh, hor, hlen, hos, hpm, reads, List.not_mem_nil, not_false_eq_true]))
  all_goals (try exact ⟨by simp [wr], fun b' h1 h2 => by unfold wr; rw [List.getElem?_set_ne (Ne.symm h2), List.getElem?_append_left h1], by rw [cells_wr2 (by simp; omega)]⟩)

--eng lenA_eO iaddr_eO get_O one_eO cellsOf_eO
def eO : Option (List Bool) → AV
  | none => .nils
  | some l => .ro 1 (l.map .bool) l.length
def lO : Option (List Bool) → List Bool
  | none => []
  | some l => l
theorem lenA_eO {l : Option (List Bool)} : lenA (eO l) = some (.int .i64 (lO l).length) := by cases l <;> rfl
theorem iaddr_eO {l : Option (List Bool)} {k : IntKind} {n : Int} (h1 : 0 ≤ n) (h2 : n < (lO l).length) : iaddrA 1 (eO l) (.int k n) = some (.rad ((lO l).map .bool) n.toNat) := by
  cases l with
  | none => simp [lO] at h2; omega
  | some l => exact (iaddrA_ro h1 h2).trans (by simp [lO])
theorem get_O {l : List Bool} {i : Nat} (hi : i < l.length) : (l.map AV.bool)[i]? = some (.bool (l.getD i false)) := by simp [hi]
theorem one_eO {l : Option (List Bool)} : one (eO l) = true := by cases l <;> rfl
theorem cellsOf_eO {l : Option (List Bool)} : cellsOf (eO l) = [eO l] := by cases l <;> rfl
theorem free_eO {l : Option (List Bool)} : Free (eO l) := by
  cases l with
  | none => exact free_nils
  | some l => exact free_ro (free_map_ fun _ => free_bool)
theorem ok_eO {l : Option (List Bool)} (h : OkV (eO l)) : (lO l).length ≤ 9223372036854775807 := by
  cases l with
  | none => simp [lO]
  | some l => exact h.ro.1

attribute [push_cast] lenA_eO iaddr_eO get_O one_eO cellsOf_eO
theorem wordsN_succ {B m : Nat} : wordsN B (m + 1) = (wordN B 0 : Int) :: wordsN (B >>> 16) m := by
  unfold wordsN
  rw [List.range_succ_eq_map, List.map_cons, List.map_map]
  congr 1
  refine List.map_congr_left fun k _ => ?_
  simp only [Function.comp]
  unfold wordN
  rw [← Nat.shiftRight_add]
  congr 3
  omega
theorem numW_wordsN : ∀ {m B : Nat}, B < 2 ^ (16 * m) → numW (wordsN B m) = B
  | 0, B, h => by
    have : B = 0 := by simpa using h
    subst this
    rfl
  | m + 1, B, h => by
    have h16 : (2 : Nat) ^ 16 = 65536 := rfl
    have hlt : B >>> 16 < 2 ^ (16 * m) := by
      rw [Nat.shiftRight_eq_div_pow, Nat.div_lt_iff_lt_mul (Nat.two_pow_pos _), ← Nat.pow_add]
      rwa [show 16 * m + 16 = 16 * (m + 1) by omega]
    rw [wordsN_succ, numW, numW_wordsN hlt]
    have hw : (wordN B 0 : Int).toNat = B % 65536 := by
      rw [Int.toNat_natCast]
      rfl
    rw [hw, Nat.shiftRight_eq_div_pow, h16]
    omega
/-- A number whose bits are told. -/
def mkN (n : Nat) (g : Nat → Bool) : Nat := (List.range n).foldl (fun B i => setB B i (g i)) 0
theorem mkN_succ {n : Nat} {g : Nat → Bool} : mkN (n + 1) g = setB (mkN n g) n (g n) := by
  unfold mkN
  rw [List.range_succ, List.foldl_append]
  rfl
theorem mkN_bit {g : Nat → Bool} {j : Nat} : ∀ {n : Nat}, (mkN n g).testBit j = (decide (j < n) && g j)
  | 0 => by simp [mkN]
  | n + 1 => by
    rw [mkN_succ, setB_bit]
    by_cases h : j = n
    · subst h
      simp
    · rw [if_neg h, mkN_bit]
      congr 1
      rw [decide_eq_decide]
      omega

/-- The number of a list of bits, so far. -/
def bitN (l : List Bool) (n : Nat) : Nat := mkN n fun i => l.getD i false
theorem bitN_on {l : List Bool} {i : Nat} (h : l.getD i false = true) : bitN l (i + 1) = bitN l i ||| 2 ^ i := by
  unfold bitN
  rw [mkN_succ, h]
  refine Nat.eq_of_testBit_eq fun j => ?_
  rw [setB_bit, Nat.testBit_or, Nat.testBit_two_pow]
  by_cases hj : j = i
  · simp [hj]
  · simp [hj, Ne.symm hj]
theorem bitN_off {l : List Bool} {i : Nat} (h : l.getD i false = false) : bitN l (i + 1) = bitN l i := by
  unfold bitN
  rw [mkN_succ, h]
  refine Nat.eq_of_testBit_eq fun j => ?_
  rw [setB_bit, mkN_bit]
  by_cases hj : j = i
  · simp [hj]
  · simp [hj]

/-- A vector of a list of bits, in memory of the call's own. -/
theorem c_spec_biSome (o : Option (List Bool)) (m : Nat) (hm : ((((lO o).length : Int)) + 15) / 16 = (m : Int)) (hl : (lO o).length ≤ 5000) (h : H) : Call Tryd.prog 68 [eO o] h Nowhere (fun x h' => ∃ bb, x = .agg [.int .i64 (lO o).length, .sl bb 0 1 m m] ∧ h.length ≤ bb ∧ h.length ≤ h'.length ∧ (∀ c, c < h.length → h'[c]? = h[c]?) ∧ h'.cells bb = some ((wordsN (bitN (lO o) (lO o).length) m).map (.int .i64))) := by
  refine enter (by kernel_rfl) e68 (by kernel_rfl) rfl fun hok => ?_
  simp only [r68, initEnv_1]
  (try (simp (disch := first | omega | (simp <;> omega) | fail) only [push_cast, ↓reduceIte, Nat.reduceEqDiff, Nat.reduceAdd, Nat.reduceMul, Nat.reduceSub, Nat.reduceLT, Int.reduceToNat]))
  refine (c_spec_biNew_own (lO o).length m (by omega) hm _).mono (fun x h1 hx => ?_) (fun _ _ h => h.elim)
  obtain ⟨bb, rfl, hbb, ⟨p, hp1⟩, hcb⟩ := hx
  simp only [List.length_append, List.length_cons, List.length_nil] at hbb
  have hl1 : h.length + 1 ≤ h1.length := by rw [hp1]; simp
  have hk1 : ∀ c, c < h.length → h1[c]? = h[c]? := fun c hc => by
    rw [hp1, List.append_assoc]
    exact List.getElem?_append_left hc
  have hc0 : h1.cells h.length = some [.int .i64 0, .nils] := by
    rw [hp1]
    refine cells_app ?_
    rw [cells_h0]
    rfl
  have hbl1 := cells_lt hcb
  clear hp1
  (try (simp (disch := first | omega | (simp <;> omega) | fail) only [push_cast, ↓reduceIte, Nat.reduceEqDiff, Nat.reduceAdd, Nat.reduceMul, Nat.reduceSub, Nat.reduceLT, Int.reduceToNat]))
  refine T_for (lO o).length (fun i e h' => Pins e [(2, .adr h.length 0), (3, .adr h1.length 0), (9, eO o), (10, .int .i64 (lO o).length), (11, .int .i64 i)] ∧ h1.length < h'.length ∧ (∀ c, c < h.length → h'[c]? = h[c]?) ∧ h'.cells h.length = some [.int .i64 0, .nils] ∧ h'.cells h1.length = some [.int .i64 (lO o).length, .sl bb 0 1 m m] ∧ h'.cells bb = some ((wordsN (bitN (lO o) i) m).map (.int .i64))) ?_ ?_
  · (try (simp (disch := first | omega | (simp <;> omega) | fail) only [push_cast, ↓reduceIte, Nat.reduceEqDiff, Nat.reduceAdd, Nat.reduceMul, Nat.reduceSub, Nat.reduceLT, Int.reduceToNat]))
    all_goals (try exact ⟨by simp, fun c hc => (List.getElem?_append_left (by omega)).trans (hk1 c hc), cells_app hc0, cells_app hcb⟩)
    all_goals (try exact ⟨fun c hc => (List.getElem?_append_left (by omega)).trans (hk1 c hc), hc0, hcb⟩)
    all_goals (try exact ⟨by simp, fun c hc => (List.getElem?_append_left (by omega)).trans (hk1 c hc), cells_app hc0, by rw [cells_h0]; rfl, cells_app hcb⟩)
  rintro i e h' hi ⟨hp, q1, q2, q3, q4, q5⟩
  refine T_pins hp fun e => ?_
  (try (simp (disch := first | omega | (simp <;> omega) | fail) only [push_cast, ↓reduceIte, Nat.reduceEqDiff, Nat.reduceAdd, Nat.reduceMul, Nat.reduceSub, Nat.reduceLT, Int.reduceToNat]))
  first | refine goC_split (fun hc => ?_) (fun hc => ?_) | refine cnd_split (fun hc => ?_) (fun hc => ?_)
  · (try (simp only [decide_eq_true_eq, decide_eq_false_iff_not, Bool.not_eq_true', Bool.not_eq_false', Bool.and_eq_true, Bool.or_eq_true, Int.not_lt, Int.not_le] at hc)); (try (simp (disch := first | omega | (simp <;> omega) | fail) only [push_cast, ↓reduceIte, Nat.reduceEqDiff, Nat.reduceAdd, Nat.reduceMul, Nat.reduceSub, Nat.reduceLT, Int.reduceToNat]))
    have hi2 : i < (lO o).length := by omega
    cases hb : (lO o).getD i false
    · have q6 := q5
      rw [← bitN_off hb] at q6
      (try (simp (disch := first | omega | (simp <;> omega) | fail) only [push_cast, ↓reduceIte, Nat.reduceEqDiff, Nat.reduceAdd, Nat.reduceMul, Nat.reduceSub, Nat.reduceLT, Int.reduceToNat, hb]))
      all_goals (try exact ⟨q2, q3, q4, q6⟩)
    · (try (simp (disch := first | omega | (simp <;> omega) | fail) only [push_cast, ↓reduceIte, Nat.reduceEqDiff, Nat.reduceAdd, Nat.reduceMul, Nat.reduceSub, Nat.reduceLT, Int.reduceToNat, hb, q4]))
      refine (c_spec_biSet (lO o).length bb m _ i h' q5 (by omega) (by omega)).mono (fun y h2 hy => ?_) (fun b' _ hb' => Or.inr (by omega))
      obtain ⟨y1, y2, y3⟩ := hy
      rw [← bitN_on hb] at y3
      have r2 : ∀ c, c < h.length → h2[c]? = h[c]? := fun c hc => (y2 c (by omega) (by omega)).trans (q2 c hc)
      have r3 := cells_keep (y2 h.length (by omega) (by omega)) q3
      have r4 := cells_keep (y2 h1.length (by omega) (by omega)) q4
      (try (simp (disch := first | omega | (simp <;> omega) | fail) only [push_cast, ↓reduceIte, Nat.reduceEqDiff, Nat.reduceAdd, Nat.reduceMul, Nat.reduceSub, Nat.reduceLT, Int.reduceToNat]))
      all_goals (try exact ⟨r2, r3, r4, y3⟩)
  · (try (simp only [decide_eq_true_eq, decide_eq_false_iff_not, Bool.not_eq_true', Bool.not_eq_false', Bool.and_eq_true, Bool.or_eq_true, Int.not_lt, Int.not_le] at hc)); (try (simp (disch := first | omega | (simp <;> omega) | fail) only [push_cast, ↓reduceIte, Nat.reduceEqDiff, Nat.reduceAdd, Nat.reduceMul, Nat.reduceSub, Nat.reduceLT, Int.reduceToNat]))
    have hie : i = (lO o).length := by omega
    subst hie
    have hw := cells_wr2 (cells_lt q3) (cs := [AV.int .i64 ((lO o).length : Int), .sl bb 0 1 m m])
    have hpm : (h.length ≤ h.length) = True := by simp
    have f1 : h.length ≤ (wr h' h.length [AV.int .i64 ((lO o).length : Int), .sl bb 0 1 m m]).length := by simp [wr]; omega
    have f2 : ∀ c, c < h.length → (wr h' h.length [AV.int .i64 ((lO o).length : Int), .sl bb 0 1 m m])[c]? = h[c]? := fun c hc => by
      unfold wr
      rw [List.getElem?_set_ne (by omega)]
      exact q2 c hc
    have f3 : (wr h' h.length [AV.int .i64 ((lO o).length : Int), .sl bb 0 1 m m]).cells bb = some ((wordsN (bitN (lO o) (lO o).length) m).map (.int .i64)) := by
      rw [cells_eq]
      unfold wr
      rw [List.getElem?_set_ne (by omega), ← cells_eq]
      exact q5
    (try (simp (disch := first | omega | (simp <;> omega) | fail) only [push_cast, ↓reduceIte, Nat.reduceEqDiff, Nat.reduceAdd, Nat.reduceMul, Nat.reduceSub, Nat.reduceLT, Int.reduceToNat, q3, q4, hpm, hw]))
    all_goals (try exact ⟨bb, rfl, by omega, f1, f2, f3⟩)
    all_goals (try exact ⟨bb, rfl, by omega, f2, f3⟩)

theorem c_impl_words (n : Int) (h0 : 0 ≤ n) (h1 : n ≤ 1000000000) : Fn Tryd.prog 114 [.int .i64 n] (· = .int .i64 ((n + 15) / 16)) := by
  refine Fn.of free_int fun h => ?_
  refine enter (by kernel_rfl) e114 (by kernel_rfl) rfl fun hok => ?_
  simp only [r114, initEnv_1]
  (try (simp (disch := first | omega | (simp <;> omega) | fail) only [push_cast, ↓reduceIte, Nat.reduceEqDiff, Nat.reduceAdd, Nat.reduceMul, Nat.reduceSub, Nat.reduceLT, Int.reduceToNat]))
  all_goals (try omega)

theorem c_impl_blank_own (n m : Nat) (hn : n ≤ 1000000) (hm : (((n : Int) + 15) / 16) = (m : Int)) (h : H) : Call Tryd.prog 110 [.int .i64 n] h Nowhere (fun x h' => BnI h h' n m x) := by
  refine enter (by kernel_rfl) e110 (by kernel_rfl) rfl fun hok => ?_
  simp only [r110, initEnv_1]
  (try (simp (disch := first | omega | (simp <;> omega) | fail) only [push_cast, ↓reduceIte, Nat.reduceEqDiff, Nat.reduceAdd, Nat.reduceMul, Nat.reduceSub, Nat.reduceLT, Int.reduceToNat]))
  refine (c_impl_words n (by omega) (by omega)).call ?_
  (try (simp (disch := first | omega | (simp <;> omega) | fail) only [push_cast, ↓reduceIte, Nat.reduceEqDiff, Nat.reduceAdd, Nat.reduceMul, Nat.reduceSub, Nat.reduceLT, Int.reduceToNat, hm]))
  all_goals (try exact ⟨h.length + 1, rfl, by omega, ⟨_, rfl⟩, by rw [cells_hk]; simp [cellsO, rep_words]⟩)

theorem c_impl_Bits_set (m B i b5 o bb : Nat) (on : Bool) (cs : List AV) (h : H) (h5 : h.cells b5 = some cs) (h1 : cs[o + 1]? = some (.sl bb 0 1 m m)) (hb : h.cells bb = some ((wordsN B m).map (.int .i64))) (hi : i < 16 * m) (hm : m ≤ 1000) (hne : b5 ≠ bb) :
    Call Tryd.prog 111 [.adr b5 o, .int .i64 i, .bool on] h (fun b' => b' = bb) (fun _ h' => h'.length = h.length ∧ (∀ c, c ≠ bb → h'[c]? = h[c]?) ∧ h'.cells bb = some ((wordsN (setB B i on) m).map (.int .i64))) := by
  refine enter (by kernel_rfl) e111 (by kernel_rfl) rfl fun hok => ?_
  simp only [r111, initEnv_3]
  have hbl := cells_lt hb
  have e1 : ((i : Int) / 16).toNat = i / 16 := by omega
  have e2 : ((i : Int) % 16).toNat = i % 16 := by omega
  obtain ⟨v, hv⟩ : ∃ v : Nat, v = 2 ^ (i % 16) := ⟨_, rfl⟩
  have hvl : v < 65536 := by
    rw [hv]
    have : 2 ^ (i % 16) < 2 ^ 16 := Nat.pow_lt_pow_right (by decide) (by omega)
    simpa using this
  have hsh := shl16 (j := i % 16) (by omega)
  rw [← hv] at hsh
  have hwl := wordN_lt (B := B) (k := i / 16)
  obtain ⟨r, hr⟩ : ∃ r : Nat, r = wordN B (i / 16) ^^^ (wordN B (i / 16) &&& v) := ⟨_, rfl⟩
  have han := bitsI_andNot (x := wordN B (i / 16)) (y := v) (by omega) (by omega)
  rw [← hr] at han
  have hlen : ((wordsN B m).map (AV.int .i64)).length = m := by simp [wordsN_len]
  have hgi : ((wordsN B m).map (AV.int .i64))[i / 16]? = some (.int .i64 (wordN B (i / 16) : Int)) := by
    rw [get_I (by rw [wordsN_len]; omega), wordsN_get (by omega)]
  obtain ⟨C, hC⟩ : ∃ C, C = B ^^^ (B &&& 2 ^ i) := ⟨_, rfl⟩
  have hos : over ((wordsN B m).map (AV.int .i64)) (i / 16) [.int .i64 (r : Int)] = (wordsN C m).map (.int .i64) := by
    rw [over_set (by rw [hlen]; omega), hC, ← wordsN_clr hi, ← hv, ← hr, List.map_set]
  have hpm : (bb = bb) = True := by simp
  have w5 : H.cells (wr h bb ((wordsN C m).map (.int .i64))) b5 = some cs := by
    rw [cells_eq]
    unfold wr
    rw [List.getElem?_set_ne (Ne.symm hne), ← cells_eq]
    exact h5
  have wb : H.cells (wr h bb ((wordsN C m).map (.int .i64))) bb = some ((wordsN C m).map (.int .i64)) := cells_wr2 hbl
  have hlen2 : ((wordsN C m).map (AV.int .i64)).length = m := by simp [wordsN_len]
  have hgi2 : ((wordsN C m).map (AV.int .i64))[i / 16]? = some (.int .i64 (wordN C (i / 16) : Int)) := by
    rw [get_I (by rw [wordsN_len]; omega), wordsN_get (by omega)]
  have hwl2 := wordN_lt (B := C) (k := i / 16)
  obtain ⟨r2, hr2⟩ : ∃ r : Nat, r = wordN C (i / 16) ||| v := ⟨_, rfl⟩
  have hor := bitsI_or (x := wordN C (i / 16)) (y := v) (by omega) (by omega)
  rw [← hr2] at hor
  have hos2 : over ((wordsN C m).map (AV.int .i64)) (i / 16) [.int .i64 (r2 : Int)] = (wordsN (C ||| 2 ^ i) m).map (.int .i64) := by
    rw [over_set (by rw [hlen2]; omega), ← wordsN_set hi, ← hv, ← hr2, List.map_set]
  have hres : setB B i on = if on then C ||| 2 ^ i else C := by
    unfold setB
    rw [hC]
    cases on <;> simp
  have hfr1 : ∀ c, c ≠ bb → (wr h bb ((wordsN C m).map (.int .i64)))[c]? = h[c]? := fun c hc => by
    unfold wr
    rw [List.getElem?_set_ne (Ne.symm hc)]
  cases on
  · rw [if_neg (by simp)] at hres
    rw [hres]
    (try (simp (disch := first | omega | (simp <;> omega) | fail) only [push_cast, ↓reduceIte, Nat.reduceEqDiff, Nat.reduceAdd, Nat.reduceMul, Nat.reduceSub, Nat.reduceLT, Int.reduceToNat, h5, h1, hb, e1, e2, hsh, hgi, han, hlen, hos, hpm, reads, List.mem_cons, List.mem_append, List.not_mem_nil, nat_ff, or_self, or_false, false_or, not_false_eq_true]))
    all_goals (try exact ⟨by simp [wr], hfr1, wb⟩)
  · rw [if_pos rfl] at hres
    rw [hres]
    (try (simp (disch := first | omega | (simp <;> omega) | fail) only [push_cast, ↓reduceIte, Nat.reduceEqDiff, Nat.reduceAdd, Nat.reduceMul, Nat.reduceSub, Nat.reduceLT, Int.reduceToNat, h5, h1, hb, e1, e2, hsh, hgi, han, hlen, hos, hpm, w5, wb, hgi2, hor, hlen2, hos2, reads, List.mem_cons, List.mem_append, List.not_mem_nil, nat_ff, or_self, or_false, false_or, not_false_eq_true]))
    all_goals (try exact ⟨by simp [wr], fun c hc => by
      unfold wr
      rw [List.getElem?_set_ne (Ne.symm hc)]
      exact hfr1 c hc, cells_wr2 (by simp [wr]; omega)⟩)

def MdI (h h' : H) (n m b9 bb x : Nat) : Prop :=
  h.length ≤ h'.length ∧ (∀ c, c < h.length → h'[c]? = h[c]?) ∧ h'.cells b9 = some [.int .i64 n, .sl bb 0 1 m m] ∧ h'.cells bb = some ((wordsN x m).map (.int .i64)) ∧ h.length + 1 ≤ bb ∧ h.length + 1 ≤ b9 ∧ b9 ≠ bb ∧ h'.cells h.length = some [.int .i64 0, .nils]
theorem MdI.put {h h' h2 : H} {n m b9 bb x y : Nat} (hr : MdI h h' n m b9 bb x) (hl : h2.length = h'.length) (hf : ∀ c, c ≠ bb → h2[c]? = h'[c]?) (hc : h2.cells bb = some ((wordsN y m).map (.int .i64))) : MdI h h2 n m b9 bb y := by
  obtain ⟨h1, h2, h3, h4, h5, h6, h7, h8⟩ := hr
  exact ⟨by omega, fun c hc => (hf c (by omega)).trans (h2 c hc), cells_keep (hf _ h7) h3, hc, h5, h6, h7, cells_keep (hf _ (by omega)) h8⟩
theorem c_impl_madeBits (n m f b0 : Nat) (cs : List AV) (g : Nat → Bool) (hn : n ≤ 5000) (hm : (((n : Int) + 15) / 16) = (m : Int)) (hg : ∀ i : Nat, i < n → Fn Tryd.prog f [.int .i64 i, .rad cs 0] (· = .bool (g i))) (hfree : ∀ c ∈ cs, Free c) (h : H) (hb : h.cells b0 = some cs) :
    Call Tryd.prog 72 [.int .i64 n, .fn f [.adr b0 0]] h Nowhere (fun x h' => ∃ bb, x = .agg [.int .i64 n, .sl bb 0 1 m m] ∧ h.length ≤ bb ∧ h.length ≤ h'.length ∧ (∀ c, c < h.length → h'[c]? = h[c]?) ∧ h'.cells bb = some ((wordsN (mkN n g) m).map (.int .i64))) := by
  refine enter (by kernel_rfl) e72 (by kernel_rfl) rfl fun hok => ?_
  simp only [r72, initEnv_2]
  have hbl := cells_lt hb
  (try (simp (disch := first | omega | (simp <;> omega) | fail) only [push_cast, ↓reduceIte, Nat.reduceEqDiff, Nat.reduceAdd, Nat.reduceMul, Nat.reduceSub, Nat.reduceLT, Int.reduceToNat]))
  refine (c_impl_blank_own n m (by omega) hm _).mono (fun x h1 hx => ?_) (fun _ _ h => h.elim)
  obtain ⟨bb, rfl, hbb, ⟨p, hp1⟩, hcb⟩ := hx
  simp only [List.length_append, List.length_cons, List.length_nil] at hbb
  have hl1 : h.length + 1 ≤ h1.length := by rw [hp1]; simp
  have hk1 : ∀ c, c < h.length → h1[c]? = h[c]? := fun c hc => by
    rw [hp1, List.append_assoc]
    exact List.getElem?_append_left hc
  have hc0 : h1.cells h.length = some [.int .i64 0, .nils] := by
    rw [hp1]
    refine cells_app ?_
    rw [cells_h0]
    rfl
  have hbl1 := cells_lt hcb
  clear hp1
  have hne : h1.length ≠ bb := by omega
  have hM0 : MdI h (h1 ++ [some (.cells [.int .i64 n, .sl bb 0 1 m m])]) n m h1.length bb (mkN 0 g) := ⟨by simp; omega, fun c hc => (List.getElem?_append_left (by omega)).trans (hk1 c hc), by rw [cells_h0]; rfl, cells_app hcb, hbb, hl1, hne, cells_app hc0⟩
  (try (simp (disch := first | omega | (simp <;> omega) | fail) only [push_cast, ↓reduceIte, Nat.reduceEqDiff, Nat.reduceAdd, Nat.reduceMul, Nat.reduceSub, Nat.reduceLT, Int.reduceToNat]))
  refine T_for n (fun i e h' => Pins e [(1, .fn f [.adr b0 0]), (4, .adr h.length 0), (5, .adr h1.length 0), (9, .int .i64 n), (10, .int .i64 i)] ∧ MdI h h' n m h1.length bb (mkN i g)) ?_ ?_
  · (try (simp (disch := first | omega | (simp <;> omega) | fail) only [push_cast, ↓reduceIte, Nat.reduceEqDiff, Nat.reduceAdd, Nat.reduceMul, Nat.reduceSub, Nat.reduceLT, Int.reduceToNat]))
    all_goals (try exact hM0)
  clear hM0
  rintro i e h' hi ⟨hp, hr⟩
  refine T_pins hp fun e => ?_
  obtain ⟨r1, r2, r3, r4, r5, r6, r7, r8⟩ := id hr
  (try (simp (disch := first | omega | (simp <;> omega) | fail) only [push_cast, ↓reduceIte, Nat.reduceEqDiff, Nat.reduceAdd, Nat.reduceMul, Nat.reduceSub, Nat.reduceLT, Int.reduceToNat]))
  first | refine goC_split (fun hc => ?_) (fun hc => ?_) | refine cnd_split (fun hc => ?_) (fun hc => ?_)
  · (try (simp only [decide_eq_true_eq, decide_eq_false_iff_not, Bool.not_eq_true', Bool.not_eq_false', Bool.and_eq_true, Bool.or_eq_true, Int.not_lt, Int.not_le] at hc)); (try (simp (disch := first | omega | (simp <;> omega) | fail) only [push_cast, ↓reduceIte, Nat.reduceEqDiff, Nat.reduceAdd, Nat.reduceMul, Nat.reduceSub, Nat.reduceLT, Int.reduceToNat]))
    have hi2 : i < n := by omega
    have hbi : h'.cells b0 = some cs := cells_keep (r2 b0 hbl) hb
    (try (simp (disch := first | omega | (simp <;> omega) | fail) only [push_cast, ↓reduceIte, Nat.reduceEqDiff, Nat.reduceAdd, Nat.reduceMul, Nat.reduceSub, Nat.reduceLT, Int.reduceToNat]))
    refine (hg i hi2).lendL (.free free_int (.adr hbi hfree .nil)) own_bool ?_
    (try (simp (disch := first | omega | (simp <;> omega) | fail) only [push_cast, ↓reduceIte, Nat.reduceEqDiff, Nat.reduceAdd, Nat.reduceMul, Nat.reduceSub, Nat.reduceLT, Int.reduceToNat]))
    refine (c_impl_Bits_set m (mkN i g) i h1.length 0 bb (g i) _ _ r3 rfl r4 (by omega) (by omega) r7).mono (fun y h2 hy => ?_) (fun b' _ hb' => Or.inr (by omega))
    obtain ⟨y1, y2, y3⟩ := hy
    rw [← mkN_succ] at y3
    have hfin := hr.put y1 y2 y3
    (try (simp (disch := first | omega | (simp <;> omega) | fail) only [push_cast, ↓reduceIte, Nat.reduceEqDiff, Nat.reduceAdd, Nat.reduceMul, Nat.reduceSub, Nat.reduceLT, Int.reduceToNat]))
    all_goals (try exact hfin)
  · (try (simp only [decide_eq_true_eq, decide_eq_false_iff_not, Bool.not_eq_true', Bool.not_eq_false', Bool.and_eq_true, Bool.or_eq_true, Int.not_lt, Int.not_le] at hc)); (try (simp (disch := first | omega | (simp <;> omega) | fail) only [push_cast, ↓reduceIte, Nat.reduceEqDiff, Nat.reduceAdd, Nat.reduceMul, Nat.reduceSub, Nat.reduceLT, Int.reduceToNat]))
    have hie : i = n := by omega
    subst hie
    have hw := cells_wr2 (h := h') (b := h.length) (cells_lt r8) (cs := [AV.int .i64 (i : Int), .sl bb 0 1 m m])
    have hpm : (h.length ≤ h.length) = True := by simp
    have f2 : ∀ c, c < h.length → (wr h' h.length [AV.int .i64 (i : Int), .sl bb 0 1 m m])[c]? = h[c]? := fun c hc => by
      unfold wr
      rw [List.getElem?_set_ne (by omega)]
      exact r2 c hc
    have f3 : (wr h' h.length [AV.int .i64 (i : Int), .sl bb 0 1 m m]).cells bb = some ((wordsN (mkN i g) m).map (.int .i64)) := by
      rw [cells_eq]
      unfold wr
      rw [List.getElem?_set_ne (by omega), ← cells_eq]
      exact r4
    (try (simp (disch := first | omega | (simp <;> omega) | fail) only [push_cast, ↓reduceIte, Nat.reduceEqDiff, Nat.reduceAdd, Nat.reduceMul, Nat.reduceSub, Nat.reduceLT, Int.reduceToNat, r3, r8, hpm, hw]))
    all_goals (try exact ⟨bb, rfl, by omega, f2, f3⟩)
    all_goals (try exact ⟨bb, rfl, by omega, by simp [wr]; omega, f2, f3⟩)

theorem okBt_num {b : Bt} (h : okBt b = true) : lI b.words = wordsN (numW (lI b.words)) (lI b.words).length ∧ 0 ≤ b.size ∧ b.size ≤ 4096 ∧ ((lI b.words).length : Int) = (b.size + 15) / 16 := by
  simp only [okBt, okWords, Bool.and_eq_true, decide_eq_true_eq, List.all_eq_true] at h
  exact ⟨(wordsN_num h.2.2.1).symm, h.1.1, h.1.2, h.2.1⟩

def okCh (c : UInt8) : Bool := decide (32 ≤ (c.toNat : Int)) && decide ((c.toNat : Int) ≤ 125)
def plain (s : Str) : Bool := s.all okCh
def plainV (s : Str) : Bool := plain s && decide ((s.length : Int) ≤ 6000)
/-- The checksum of the first so many. -/
def chk (s : Str) : Nat → Int
  | 0 => 0
  | i + 1 => (chk s i + ((i : Int) + 1) * ((s.getD i 0).toNat : Int)) % 65521
theorem chk_bd (s : Str) : ∀ i, 0 ≤ chk s i ∧ chk s i < 65521
  | 0 => by simp [chk]
  | i + 1 => by
    unfold chk
    omega
def sealT (s : Str) : Str := s ++ 126 :: Lib.decDigits (chk s s.length).toNat
def sealV (s : Str) : AV := if plainV s then .tup [.str (sealT s), .bool true] else .tup [.str [], .bool false]
theorem free_sealV {s : Str} : Free (sealV s) := by
  unfold sealV
  split <;> exact free_tup (free_cons_ free_str (free_cons_ free_bool free_nil_))
theorem plain_take {s : Str} {i : Nat} (hi : i < s.length) : plain (s.take (i + 1)) = (plain (s.take i) && okCh (s.getD i 0)) := by
  unfold plain
  rw [List.take_add_one, List.all_append]
  simp [hi]
theorem plain_no {s : Str} {i : Nat} (hi : i < s.length) (hf : okCh (s.getD i 0) = false) : plain s = false := by
  unfold plain
  rw [List.all_eq_false]
  exact ⟨s.getD i 0, by simp [hi], by rw [hf]; simp⟩
theorem itoa_nn {n : Int} (h : 0 ≤ n) : Lib.itoa n = Lib.decDigits n.toNat := by
  unfold Lib.itoa
  rw [if_neg (by omega)]
theorem dec_len {n : Nat} (h : n < 18446744073709551616) : (Lib.decDigits n).length ≤ 20 := by
  rw [Lib.decDigits_length]
  exact Lib.nDigits_le20 n h
theorem dec_rec {n : Nat} : Lib.decDigits n = if n < 10 then [UInt8.ofNat (48 + n)] else Lib.decDigits (n / 10) ++ [UInt8.ofNat (48 + n % 10)] := by
  rw [Lib.decDigits]
  split <;> rfl
theorem dec_plain : ∀ n : Nat, ∀ c ∈ Lib.decDigits n, 48 ≤ c.toNat ∧ c.toNat ≤ 57 := fun n => by
  induction n using Nat.strongRecOn with
  | _ n ih =>
    rw [dec_rec]
    by_cases hn : n < 10
    · rw [if_pos hn]
      intro c hc
      simp at hc
      subst hc
      simp
      omega
    · rw [if_neg hn]
      intro c hc
      rcases List.mem_append.1 hc with hc | hc
      · exact ih (n / 10) (by omega) c hc
      · simp at hc
        subst hc
        simp
        omega

theorem fits_cons {s : Sh} {ss : List Sh} {zs : List AV} (h : Fits (s :: ss) zs) : ∃ xs ys, zs = xs ++ ys ∧ Fit s xs ∧ Fits ss ys := by
  cases h with
  | cons h hr => exact ⟨_, _, rfl, h, hr⟩
theorem fits_nil {zs : List AV} (h : Fits [] zs) : zs = [] := by cases h; rfl
theorem fit_int {zs : List AV} (h : Fit (.int .i64) zs) : ∃ n : Int, zs = [.int .i64 n] ∧ -9223372036854775808 ≤ n ∧ n ≤ 9223372036854775807 := by
  cases h with
  | int h1 h2 => exact ⟨_, rfl, by simpa [IntKind.min, IntKind.signed, IntKind.bits] using h1, by simpa [IntKind.max, IntKind.signed, IntKind.bits] using h2⟩
theorem fit_str {zs : List AV} (h : Fit .str zs) : ∃ s : Str, zs = [.str s] ∧ s.length ≤ 9223372036854775807 := by
  cases h with
  | str h => exact ⟨_, rfl, h⟩
theorem fit_st {fs : List Sh} {zs : List AV} (h : Fit (.st fs) zs) : Fits fs zs := by
  cases h with
  | st h => exact h
theorem flatMap_eq {α β : Type} {f g : α → List β} : ∀ {l : List α}, (∀ a ∈ l, f a = g a) → l.flatMap f = l.flatMap g
  | [], _ => rfl
  | a :: l, h => by
    rw [List.flatMap_cons, List.flatMap_cons, h a (by simp), flatMap_eq fun b hb => h b (by simp [hb])]
theorem fit_strs {zs : List AV} (h : Fit (.sl .str 1) zs) : ∃ a : Option (List Str), zs = [eS a] := by
  cases h with
  | nil => exact ⟨none, rfl⟩
  | @sl _ _ n g hm hl h =>
    have hg : ∀ i, ∃ s : Str, i < n → g i = [.str s] := fun i => by
      by_cases hi : i < n
      · obtain ⟨s, hs, _⟩ := fit_str (h i hi)
        exact ⟨s, fun _ => hs⟩
      · exact ⟨[], fun h => absurd h hi⟩
    refine ⟨some ((List.range n).map fun i => Classical.choose (hg i)), ?_⟩
    simp only [eS, List.length_map, List.length_range, List.map_map]
    congr 2
    rw [← List.flatMap_singleton' ((List.range n).map _), List.flatMap_map]
    refine flatMap_eq fun i hi => ?_
    rw [Classical.choose_spec (hg i) (List.mem_range.1 hi)]
    rfl
theorem argsFit_cons {s : Sh} {ss : List Sh} {zs : List AV} (h : ArgsFit (s :: ss) zs) : ∃ xs ys, zs = argOf s xs :: ys ∧ Fit s xs ∧ ArgsFit ss ys := by
  cases h with
  | cons h hr => exact ⟨_, _, rfl, h, hr⟩
theorem argsFit_nil {zs : List AV} (h : ArgsFit [] zs) : zs = [] := by cases h; rfl

theorem fit_rows {α : Type} [Inhabited α] {s : Sh} {w : Nat} {f : α → List AV} (hf : ∀ xs, Fit s xs → ∃ a, xs = f a) {zs : List AV} (h : Fit (.sl s w) zs) : zs = [.nils] ∨ ∃ l : List α, zs = [.ro w (l.flatMap f) l.length] := by
  cases h with
  | nil => exact .inl rfl
  | @sl _ _ n g hm hl h =>
    have hg : ∀ i, ∃ a : α, i < n → g i = f a := fun i => by
      by_cases hi : i < n
      · obtain ⟨a, ha⟩ := hf _ (h i hi)
        exact ⟨a, fun _ => ha⟩
      · exact ⟨default, fun h => absurd h hi⟩
    refine .inr ⟨(List.range n).map fun i => Classical.choose (hg i), ?_⟩
    rw [List.length_map, List.length_range, List.flatMap_map]
    congr 2
    exact flatMap_eq fun i hi => Classical.choose_spec (hg i) (List.mem_range.1 hi)
theorem flatMap_one {α : Type} {f : α → AV} : ∀ {l : List α}, l.flatMap (fun a => [f a]) = l.map f
  | [] => rfl
  | a :: l => by rw [List.flatMap_cons, flatMap_one]; rfl
theorem fit_ints {zs : List AV} (h : Fit (.sl (.int .i64) 1) zs) : ∃ a : Option (List Int), zs = [eI a] := by
  rcases fit_rows (f := fun n : Int => [AV.int .i64 n]) (fun xs hx => by obtain ⟨n, hn, _⟩ := fit_int hx; exact ⟨n, hn⟩) h with rfl | ⟨l, rfl⟩
  · exact ⟨none, rfl⟩
  · exact ⟨some l, by rw [flatMap_one]; rfl⟩

def u8s (s : Str) : List AV := s.map fun c => .int .u8 (c.toNat : Int)
theorem asInts_u8s : ∀ s : Str, asInts (u8s s) = some s
  | [] => rfl
  | c :: s => by
    have ih := asInts_u8s s
    unfold u8s at ih ⊢
    rw [List.map_cons, asInts, ih]
    simp
theorem cbs_S1 {h : H} {v : AV} {s : Str} {n : Nat} {B : List Nat} (hs : S1 h 1 v n (u8s s) B) : cbsA h v = some (.str s) := by
  obtain ⟨hl, hs⟩ := hs
  have hn : s.length = n := by
    unfold u8s at hl
    simpa using hl
  rcases hs with ⟨rfl, h0, _⟩ | ⟨b, rfl, _, hc⟩
  · subst h0
    rw [List.eq_nil_of_length_eq_zero hn]
    rfl
  · have hul : (u8s s).length = n := by simpa using hl
    simp only [cbsA, hc, Option.bind_some, if_true]
    rw [if_pos (by omega), List.drop_zero, List.take_of_length_le (by omega), asInts_u8s]
    rfl
def bitC (b : Bool) : UInt8 := if b then 49 else 48
def textB (B n : Nat) : Str := (List.range n).map fun i => bitC (B.testBit i)
theorem textB_len {B n : Nat} : (textB B n).length = n := by simp [textB]
theorem textB_succ {B n : Nat} : u8s (textB B (n + 1)) = u8s (textB B n) ++ [.int .u8 ((bitC (B.testBit n)).toNat : Int)] := by
  simp [u8s, textB, List.range_succ]
def btText (b : Bt) : Str := if b.size = 0 then [45] else textB (numW (lI b.words)) b.size.toNat
theorem btText_len {b : Bt} (h : okBt b = true) : (btText b).length ≤ 4096 := by
  obtain ⟨_, h1, h2, _⟩ := okBt_num h
  unfold btText
  split
  · simp
  · rw [textB_len]
    omega
theorem okBt_hi {b : Bt} (h : okBt b = true) {n i : Nat} (hn : b.size = (n : Int)) (hi : i < n) : i < 16 * (lI b.words).length := by
  obtain ⟨_, h1, h2, h3⟩ := okBt_num h
  omega
def shBits : Sh := .st [.int .i64, .sl (.int .i64) 1]
theorem fit_bits {zs : List AV} (h : Fit shBits zs) : ∃ b, argOf shBits zs = eB b := by
  obtain ⟨x1, y1, rfl, h1, h⟩ := fits_cons (fit_st h)
  obtain ⟨x2, y2, rfl, h2, h⟩ := fits_cons h
  obtain rfl := fits_nil h
  obtain ⟨n, rfl, _⟩ := fit_int h1
  obtain ⟨a, rfl⟩ := fit_ints h2
  exact ⟨⟨n, a⟩, rfl⟩
def imgBV (b : Bt) : AV := if okBt b then sealV ([98, 105, 116, 115, 32] ++ btText b) else .tup [.str [], .bool false]
theorem free_imgBV {b : Bt} : Free (imgBV b) := by
  unfold imgBV
  split
  · exact free_sealV
  · exact free_tup (free_cons_ free_str (free_cons_ free_bool free_nil_))
/-- The loop: what is written so far, behind the box. -/
def TxI (h h' : H) (b : Bt) (v : AV) (i : Nat) : Prop := h.length < h'.length ∧ H.cells h' h.length = some (cB b) ∧ ∃ Bk, S1 h' 1 v i (u8s (textB (numW (lI b.words)) i)) Bk ∧ ∀ c ∈ Bk, h.length < c
theorem TxI.app {h h' : H} {b : Bt} {v : AV} {i : Nat} {x : Int} {by_ : Nat} {pm : Nat → Prop} {Q : AV → H → Prop} (ht : TxI h h' b v i) (hpm : ∀ c, h.length < c → pm c) (hx : x = ((bitC ((numW (lI b.words)).testBit i)).toNat : Int)) (hb : (i + 1) * by_ ≤ 140737488355328)
    (hQ : ∀ v' h'', TxI h h'' b v' (i + 1) → Q v' h'') : apA pm (h' ++ [some (.cells [.int .u8 x])]) Q 1 by_ (some ([.int .u8 x], 1)) v := by
  obtain ⟨t1, t2, Bk, t3, t4⟩ := ht
  have t5 := t3.frame (h' := h' ++ [some (.cells [.int .u8 x])]) fun c hc => List.getElem?_append_left (t3.lt c hc)
  refine t5.app (fun c hc => hpm c (t4 c hc)) rfl (by decide) hb (fun v' h'' B' q1 q2 q3 q4 => hQ v' h'' ⟨?_, ?_, B', ?_, fun c hc => ?_⟩)
  · simp at q2
    omega
  · rw [cells_eq, q3 h.length (by simp; omega) (fun hc => absurd (t4 _ hc) (Nat.lt_irrefl _)), List.getElem?_append_left t1, ← cells_eq]
    exact t2
  · rw [textB_succ, ← hx]
    exact q1
  · rcases q4 c hc with h5 | h5
    · exact t4 c h5
    · simp at h5
      omega

def eU : Option (List UInt8) → AV
  | none => .nils
  | some l => .ro 1 (u8s l) l.length
def lU : Option (List UInt8) → List UInt8
  | none => []
  | some l => l
theorem lenA_eU {l : Option (List UInt8)} : lenA (eU l) = some (.int .i64 (lU l).length) := by cases l <;> rfl
theorem iaddr_eU {l : Option (List UInt8)} {k : IntKind} {n : Int} (h1 : 0 ≤ n) (h2 : n < (lU l).length) : iaddrA 1 (eU l) (.int k n) = some (.rad (u8s (lU l)) n.toNat) := by
  cases l with
  | none => simp [lU] at h2; omega
  | some l => exact (iaddrA_ro h1 h2).trans (by simp [lU])
theorem get_U {l : List UInt8} {i : Nat} (hi : i < l.length) : (u8s l)[i]? = some (.int .u8 ((l.getD i 0).toNat : Int)) := by simp [u8s, hi]
theorem one_eU {l : Option (List UInt8)} : one (eU l) = true := by cases l <;> rfl
theorem cellsOf_eU {l : Option (List UInt8)} : cellsOf (eU l) = [eU l] := by cases l <;> rfl
theorem free_eU {l : Option (List UInt8)} : Free (eU l) := by
  cases l with
  | none => exact free_nils
  | some l => exact free_ro (free_map_ fun _ => free_int)
theorem ok_eU {l : Option (List UInt8)} (h : OkV (eU l)) : (lU l).length ≤ 9223372036854775807 := by
  cases l with
  | none => simp [lU]
  | some l => exact h.ro.1
attribute [push_cast] lenA_eU iaddr_eU get_U one_eU cellsOf_eU
/-- The cursor in block b: what it reads, and how far it may be. -/
def CurI (h : H) (b : Nat) (c : Option (List UInt8)) (K : Nat) : Prop := ∃ (at_ : Nat) (sd : Int), h.cells b = some [eU c, .int .i64 at_, .int .u64 sd] ∧ at_ ≤ K
/-- Nothing else is touched. -/
def CurS (h h' : H) (b : Nat) (c : Option (List UInt8)) (K : Nat) : Prop := h'.length = h.length ∧ (∀ b', b' ≠ b → h'[b']? = h[b']?) ∧ CurI h' b c K
theorem CurI.lt {h : H} {b K : Nat} {c : Option (List UInt8)} (hc : CurI h b c K) : b < h.length := by
  obtain ⟨a, s, h1, _⟩ := hc
  exact cells_lt h1
theorem CurI.frame {h h' : H} {b K : Nat} {c : Option (List UInt8)} (hc : CurI h b c K) (hk : h'[b]? = h[b]?) : CurI h' b c K := by
  obtain ⟨a, s, h1, h2⟩ := hc
  exact ⟨a, s, by rw [cells_eq, hk, ← cells_eq]; exact h1, h2⟩
theorem CurI.mono {h : H} {b K K' : Nat} {c : Option (List UInt8)} (hc : CurI h b c K) (hk : K ≤ K') : CurI h b c K' := by
  obtain ⟨a, s, h1, h2⟩ := hc
  exact ⟨a, s, h1, by omega⟩
theorem and255 (x : Int) : 0 ≤ bitsI .and .u64 x 255 ∧ bitsI .and .u64 x 255 ≤ 255 := by
  have h1 : (BitVec.ofInt 64 x &&& BitVec.ofInt 64 255).toNat ≤ 255 := by
    rw [BitVec.toNat_and]
    exact Nat.le_trans Nat.and_le_right (by decide)
  have h2 : bitsI .and .u64 x 255 = ((BitVec.ofInt 64 x &&& BitVec.ofInt 64 255).toNat : Int) := by
    show IntKind.u64.wrap ((BitVec.ofInt 64 x &&& BitVec.ofInt 64 255).toNat : Int) = _
    rw [IntKind.wrap_u64]
    omega
  rw [h2]
  omega
theorem wrap_and255 (x : Int) : IntKind.i64.wrap (bitsI .and .u64 x 255) = bitsI .and .u64 x 255 := wrap_ok (by have := and255 x; omega) (by have := and255 x; omega)
theorem cells_wr {h : H} {b : Nat} (hb : b < h.length) (cs : List AV) : H.cells (wr h b cs) b = some cs := by
  rw [cells_eq]
  unfold wr
  rw [List.getElem?_set_self hb]
  rfl
theorem wr_wr {h : H} {b : Nat} (cs cs' : List AV) : wr (wr h b cs) b cs' = wr h b cs' := by
  unfold wr
  rw [List.set_set]
/-- The text that is drawn, so far: behind the cursor. -/
def PlI (h0 h' : H) (b : Nat) (c : Option (List UInt8)) (K : Nat) (v : AV) (s : Str) : Prop :=
  h0.length ≤ h'.length ∧ b < h0.length ∧ CurI h' b c K ∧ ∃ B, S1 h' 1 v s.length (u8s s) B ∧ ∀ x ∈ B, h0.length ≤ x
theorem PlI.step {h0 h' h2 : H} {b K K' : Nat} {c : Option (List UInt8)} {v : AV} {s : Str} (hp : PlI h0 h' b c K v s) (hs : CurS h' h2 b c K') : PlI h0 h2 b c K' v s := by
  obtain ⟨p1, p2, _, B, p3, p4⟩ := hp
  obtain ⟨s1, s2, s3⟩ := hs
  exact ⟨by omega, p2, s3, B, p3.frame fun x hx => s2 x (fun he => by have := p4 x hx; omega), p4⟩
theorem PlI.app {h0 h' : H} {b K by_ : Nat} {c : Option (List UInt8)} {v : AV} {s : Str} {x : Int} {ch : UInt8} {pm : Nat → Prop} {Q : AV → H → Prop} (hp : PlI h0 h' b c K v s) (hpm : ∀ x, h0.length ≤ x → pm x) (hx : x = (ch.toNat : Int)) (hb : (s.length + 1) * by_ ≤ 140737488355328)
    (hQ : ∀ v' h'', PlI h0 h'' b c K v' (s ++ [ch]) → Q v' h'') : apA pm (h' ++ [some (.cells [.int .u8 x])]) Q 1 by_ (some ([.int .u8 x], 1)) v := by
  obtain ⟨p1, p2, p3, B, p4, p5⟩ := hp
  have p6 := p4.frame (h' := h' ++ [some (.cells [.int .u8 x])]) fun y hy => List.getElem?_append_left (p4.lt y hy)
  refine p6.app (fun y hy => hpm y (p5 y hy)) rfl (by decide) hb (fun v' h'' B' q1 q2 q3 q4 => hQ v' h'' ⟨?_, p2, p3.frame ?_, B', ?_, fun y hy => ?_⟩)
  · simp at q2
    omega
  · rw [q3 b (by simp; omega) (fun hy => by have := p5 b hy; omega), List.getElem?_append_left p3.lt]
  · have e1 : u8s (s ++ [ch]) = u8s s ++ [.int .u8 x] := by simp [u8s, hx]
    rw [e1]
    simpa using q1
  · rcases q4 y hy with h5 | h5
    · exact p5 y h5
    · simp at h5
      omega
theorem PlI.more {h0 h' l : H} {b K : Nat} {c : Option (List UInt8)} {v : AV} {s : Str} (hp : PlI h0 h' b c K v s) : PlI h0 (h' ++ l) b c K v s := by
  obtain ⟨p1, p2, p3, B, p4, p5⟩ := hp
  exact ⟨by simp; omega, p2, p3.frame (List.getElem?_append_left p3.lt), B, p4.frame fun x hx => List.getElem?_append_left (p4.lt x hx), p5⟩
theorem PlI.monoK {h0 h' : H} {b K K' : Nat} {c : Option (List UInt8)} {v : AV} {s : Str} (hp : PlI h0 h' b c K v s) (hk : K ≤ K') : PlI h0 h' b c K' v s := by
  obtain ⟨p1, p2, p3, p4⟩ := hp
  exact ⟨p1, p2, p3.mono hk, p4⟩
theorem PlI.lenA {h0 h' : H} {b K : Nat} {c : Option (List UInt8)} {v : AV} {s : Str} (hp : PlI h0 h' b c K v s) : lenA v = some (.int .i64 s.length) := by
  obtain ⟨p1, p2, p3, B, ⟨_, p4⟩, p5⟩ := hp
  rcases p4 with ⟨rfl, h0, _⟩ | ⟨b, rfl, _, _⟩
  · rw [h0]; rfl
  · rfl
theorem PlI.cbs {h0 h' : H} {b K : Nat} {c : Option (List UInt8)} {v : AV} {s : Str} (hp : PlI h0 h' b c K v s) : cbsA h' v = some (.str s) := by
  obtain ⟨p1, p2, p3, B, p4, p5⟩ := hp
  exact cbs_S1 p4
theorem over4 (x0 x1 x2 x3 y : AV) : over [x0, x1, x2, x3] 0 [y] = [y, x1, x2, x3] ∧ over [x0, x1, x2, x3] 1 [y] = [x0, y, x2, x3] ∧ over [x0, x1, x2, x3] 2 [y] = [x0, x1, y, x3] ∧ over [x0, x1, x2, x3] 3 [y] = [x0, x1, x2, y] := ⟨rfl, rfl, rfl, rfl⟩

theorem c_spec_l1Cur_next (b : Nat) (c : Option (List UInt8)) (K : Nat) (h : H) (hc : CurI h b c K) (hK : K ≤ 1000000000) :
    Call Tryd.prog 113 [.adr b 0] h (fun b' => b' = b) (fun x h' => (∃ n : Int, x = .int .i64 n ∧ 0 ≤ n ∧ n ≤ 255) ∧ CurS h h' b c (K + 1)) := by
  refine enter (by kernel_rfl) e113 (by kernel_rfl) rfl fun hok => ?_
  simp only [r113, initEnv_1]
  obtain ⟨a, sd, hcs, ha⟩ := hc
  have hlt := cells_lt hcs
  have hpm : (b = b) = True := by simp
  have hw1 := fun cs => cells_wr hlt cs
  have hw2 := fun cs cs' => wr_wr (h := h) (b := b) cs cs'
  have fin : ∀ (sd' : Int), CurS h (wr h b [eU c, .int .i64 ((a : Int) + 1), .int .u64 sd']) b c (K + 1) := fun sd' => by
    refine ⟨by simp [wr], fun b' hb' => ?_, a + 1, sd', ?_, by omega⟩
    · unfold wr
      rw [List.getElem?_set_ne (Ne.symm hb')]
    · rw [cells_wr hlt]
      simp
  by_cases hlt2 : a < (lU c).length
  · have hcb : ((lU c).getD a 0).toNat < 256 := UInt8.toNat_lt _
    (try (simp (disch := first | omega | (simp <;> omega) | fail) only [push_cast, ↓reduceIte, Nat.reduceEqDiff, Nat.reduceAdd, Nat.reduceMul, Nat.reduceSub, Nat.reduceLT, Int.reduceToNat, hcs, hpm, hw1, hw2]))
    all_goals (try exact ⟨⟨_, rfl, by omega, by omega⟩, fin _⟩)
  · (try (simp (disch := first | omega | (simp <;> omega) | fail) only [push_cast, ↓reduceIte, Nat.reduceEqDiff, Nat.reduceAdd, Nat.reduceMul, Nat.reduceSub, Nat.reduceLT, Int.reduceToNat, hcs, hpm, hw1, hw2, wrap_and255]))
    all_goals (try exact ⟨⟨_, rfl, (and255 _).1, (and255 _).2⟩, fin _⟩)

def PickR (n m : Int) : Prop := 0 ≤ m ∧ (m < n ∨ m = 0)

theorem c_spec_l1Cur_pick (b : Nat) (c : Option (List UInt8)) (K : Nat) (h : H) (n : Int) (hc : CurI h b c K) (hK : K ≤ 1000000000) (hn : 1 < n) (hn2 : n ≤ 200) :
    Call Tryd.prog 75 [.adr b 0, .int .i64 n] h (fun b' => b' = b) (fun x h' => (∃ m : Int, x = .int .i64 m ∧ 0 ≤ m ∧ m < n) ∧ CurS h h' b c (K + 1)) := by
  refine enter (by kernel_rfl) e75 (by kernel_rfl) rfl fun hok => ?_
  simp only [r75, initEnv_2]
  (try (simp (disch := first | omega | (simp <;> omega) | fail) only [push_cast, ↓reduceIte, Nat.reduceEqDiff, Nat.reduceAdd, Nat.reduceMul, Nat.reduceSub, Nat.reduceLT, Int.reduceToNat]))
  refine (c_spec_l1Cur_next b c K h hc hK).mono (fun x h' hx => ?_) (fun b' _ hb' => Or.inl hb')
  obtain ⟨⟨m, rfl, m0, m1⟩, hs⟩ := hx
  have h1 := Int.emod_nonneg m (show n ≠ 0 by omega)
  have h2 := Int.emod_lt_of_pos m (show 0 < n by omega)
  (try (simp (disch := first | omega | (simp <;> omega) | fail) only [push_cast, ↓reduceIte, Nat.reduceEqDiff, Nat.reduceAdd, Nat.reduceMul, Nat.reduceSub, Nat.reduceLT, Int.reduceToNat]))
  all_goals (try exact ⟨⟨_, rfl, h1, h2⟩, hs⟩)
theorem c_spec_l1Cur_pickAny (b : Nat) (c : Option (List UInt8)) (K : Nat) (h : H) (n : Int) (hc : CurI h b c K) (hK : K ≤ 1000000000) (hn2 : n ≤ 200) :
    Call Tryd.prog 75 [.adr b 0, .int .i64 n] h (fun b' => b' = b) (fun x h' => (∃ m : Int, x = .int .i64 m ∧ PickR n m) ∧ CurS h h' b c (K + 1)) := by
  by_cases hn : 1 < n
  · exact (c_spec_l1Cur_pick b c K h n hc hK hn hn2).mono (fun x h' hx => by
      obtain ⟨⟨m, rfl, m0, m1⟩, hs⟩ := hx
      exact ⟨⟨m, rfl, m0, .inl m1⟩, hs⟩) (fun _ _ h => h)
  · refine enter (by kernel_rfl) e75 (by kernel_rfl) rfl fun hok => ?_
    simp only [r75, initEnv_2]
    have hs : CurS h h b c (K + 1) := ⟨rfl, fun _ _ => rfl, hc.mono (by omega)⟩
    (try (simp (disch := first | omega | (simp <;> omega) | fail) only [push_cast, ↓reduceIte, Nat.reduceEqDiff, Nat.reduceAdd, Nat.reduceMul, Nat.reduceSub, Nat.reduceLT, Int.reduceToNat]))
    all_goals (try exact ⟨⟨_, rfl, Int.le_refl _, .inr rfl⟩, hs⟩)

theorem c_spec_l1Cur_one (b : Nat) (c : Option (List UInt8)) (K : Nat) (h : H) (n : Int) (hc : CurI h b c K) (hK : K ≤ 1000000000) (hn : 1 < n) (hn2 : n ≤ 200) :
    Call Tryd.prog 112 [.adr b 0, .int .i64 n] h (fun b' => b' = b) (fun x h' => (∃ t : Bool, x = .bool t) ∧ CurS h h' b c (K + 1)) := by
  refine enter (by kernel_rfl) e112 (by kernel_rfl) rfl fun hok => ?_
  simp only [r112, initEnv_2]
  (try (simp (disch := first | omega | (simp <;> omega) | fail) only [push_cast, ↓reduceIte, Nat.reduceEqDiff, Nat.reduceAdd, Nat.reduceMul, Nat.reduceSub, Nat.reduceLT, Int.reduceToNat]))
  refine (c_spec_l1Cur_pick b c K h n hc hK hn hn2).mono (fun x h' hx => ?_) (fun b' _ hb' => Or.inl hb')
  obtain ⟨⟨m, rfl, m0, m1⟩, hs⟩ := hx
  by_cases hz : m = 0
  · (try (simp (disch := first | omega | (simp <;> omega) | fail) only [push_cast, ↓reduceIte, Nat.reduceEqDiff, Nat.reduceAdd, Nat.reduceMul, Nat.reduceSub, Nat.reduceLT, Int.reduceToNat, hz]))
    all_goals (try exact ⟨⟨_, rfl⟩, hs⟩)
  · (try (simp (disch := first | omega | (simp <;> omega) | fail) only [push_cast, ↓reduceIte, Nat.reduceEqDiff, Nat.reduceAdd, Nat.reduceMul, Nat.reduceSub, Nat.reduceLT, Int.reduceToNat, hz]))
    all_goals (try exact ⟨⟨_, rfl⟩, hs⟩)

/-- A list of structs that grows, with the blocks that it may hold told by G. -/
def OwG (h : H) (G : Nat → Prop) (sz : Nat) (v : AV) (k : Nat) (ts : List AV) : Prop := (v = .nils ∧ k = 0 ∧ ts = []) ∨ Ow h [v] [.ro sz ts k] G
theorem OwG.mono {h : H} {G G' : Nat → Prop} {sz k : Nat} {v : AV} {ts : List AV} (ho : OwG h G sz v k ts) (hG : ∀ c, G c → G' c) : OwG h G' sz v k ts := by
  rcases ho with h0 | ho
  · exact .inl h0
  · exact .inr (ho.mono hG)
theorem OwG.frame {h h' : H} {G : Nat → Prop} {sz k : Nat} {v : AV} {ts : List AV} (ho : OwG h G sz v k ts) (hk : ∀ c, G c → h'[c]? = h[c]?) : OwG h' G sz v k ts := by
  rcases ho with h0 | ho
  · exact .inl h0
  · exact .inr (ho.frame hk)
theorem OwG.cell {h : H} {G : Nat → Prop} {sz k : Nat} {v : AV} {ts : List AV} (ho : OwG h G sz v k ts) : one v = true ∧ cellsOf v = [v] := by
  rcases ho with ⟨rfl, _, _⟩ | ho
  · exact ⟨rfl, rfl⟩
  · obtain ⟨b, rfl⟩ := ho.sl1
    exact ⟨rfl, rfl⟩
theorem OwG.app {h h2 : H} {G : Nat → Prop} {sz k by_ : Nat} {v : AV} {ts new nt : List AV} {pm : Nat → Prop} {Q : AV → H → Prop} (ho : OwG h G sz v k ts) (hpm : ∀ b, G b → pm b) (hl : h.length ≤ h2.length) (hk : ∀ c, G c → h2[c]? = h[c]?)
    (hn : Ow h2 new nt fun c => h.length ≤ c) (hsz : new.length = sz) (h1 : nt.all one = true) (hb : (k + 1) * by_ ≤ 140737488355328)
    (hQ : ∀ v' h', Ow h' [v'] [.ro sz (ts ++ nt) (k + 1)] (fun c => G c ∨ h.length ≤ c) → h2.length ≤ h'.length → (∀ c, c < h2.length → ¬ G c → h'[c]? = h2[c]?) → v' ≠ .nils → Q v' h') : apA pm h2 Q sz by_ (some (new, 1)) v := by
  have hnl := hn.len
  obtain ⟨V, v1, v2, v3⟩ := hn.exact_ (n0 := 0) (fun _ _ => Nat.zero_le _)
  have hV : ∀ c, V c → c < h2.length := fun c hc => by
    obtain ⟨l, hl, _⟩ := v2 c hc
    exact cells_lt hl
  rcases ho with ⟨rfl, rfl, rfl⟩ | ho
  · rw [apA_nil (by decide)]
    refine ⟨by simpa using hb, hQ _ _ ?_ (by simp) (fun c hc _ => List.getElem?_append_left hc) (by simp)⟩
    refine .sl (b := h2.length) (cs := new) (F := V) (F' := fun _ => False) (by rw [cells_h0]; rfl) (by omega) (by simpa using h1) (v3 _ fun c hc => List.getElem?_append_left (hV c hc)) .nil (.inr hl) (fun c hc => ⟨.inr (v1 c hc), by have := hV c hc; omega⟩) (fun c hc => hc.elim)
  · obtain ⟨b, cs, F, rfl, hc, hcl, hbn, hF, hin, hre⟩ := ho.open_
    have hbl := cells_lt hc
    obtain ⟨U, u1, u2, u3⟩ := hin.exact_ (n0 := 0) (fun _ _ => Nat.zero_le _)
    have hU : ∀ c, U c → c < h.length := fun c hc => by
      obtain ⟨l, hl, _⟩ := u2 c hc
      exact cells_lt hl
    have hc2 : h2.cells b = some cs := cells_keep_ (hk b hbn) hc
    have htsone : ts.all one = true := by
      cases ho with
      | sl _ _ h1 _ _ _ _ _ => exact h1
    rw [apA_sl, hc2, apC_grow (by decide) (by omega)]
    refine ⟨by omega, hpm b hbn, hb, ?_⟩
    have htk : (cs.drop 0).take (k * sz) = cs := by rw [List.drop_zero, ← hcl, List.take_length]
    rw [htk]
    have hg : ∀ c, c < h2.length → c ≠ b → (killed h2 b ++ [some (.cells (cs ++ new))])[c]? = h2[c]? := fun c hc hne => by
      rw [List.getElem?_append_left (by simpa [killed] using hc)]
      unfold killed
      exact List.getElem?_set_ne (Ne.symm hne)
    refine hQ _ _ ?_ (by simp [killed]) (fun c hc hn => hg c hc (fun he => hn (by rw [he]; exact hbn))) (by simp)
    have A := u3 (killed h2 b ++ [some (.cells (cs ++ new))]) fun c hc => (hg c (by have := hU c hc; omega) (hF c (u1 c hc)).2).trans (hk c (hF c (u1 c hc)).1)
    have B := v3 (killed h2 b ++ [some (.cells (cs ++ new))]) fun c hc => hg c (hV c hc) (by have := v1 c hc; omega)
    refine .sl (b := h2.length) (cs := cs ++ new) (F := fun c => U c ∨ V c) (F' := fun _ => False) ?_ ?_ ?_ (A.app B (fun c hc => .inl hc) (fun c hc => ⟨.inr hc, fun hu => by have := hU c hu; have := v1 c hc; omega⟩)) .nil (.inr hl) ?_ (fun c hc => hc.elim)
    · rw [cells_eq, List.getElem?_append_right (by simp [killed])]
      simp [killed, cellsO]
    · rw [List.length_append, hcl, hsz, Nat.succ_mul]
    · rw [List.all_append, Bool.and_eq_true]
      exact ⟨htsone, h1⟩
    · rintro c (hc | hc)
      · exact ⟨.inl (hF c (u1 c hc)).1, by have := hU c hc; omega⟩
      · exact ⟨.inr (v1 c hc), by have := hV c hc; omega⟩

theorem S1.vwB {h : H} {n0 : Nat} {v : AV} {l : List Bool} {B : List Nat} {n : Nat} (hs : S1 h 1 v n (l.map .bool) B) (hb : ∀ b ∈ B, n0 ≤ b) (hnn : v ≠ .nils) : Vw h n0 v (eO (some l)) := by
  have hvw := hs.vw (ts := l.map .bool) hb rfl (one_map fun _ => rfl) (fun i y t hy ht => by
    rw [hy] at ht
    injection ht with ht
    subst ht
    obtain ⟨s, _, rfl⟩ := List.mem_map.1 (List.mem_of_getElem? hy)
    exact .free free_bool)
  rcases hvw with ⟨_, h0, _⟩ | ⟨_, hv⟩
  · exact absurd h0 hnn
  · have : l.length = n := by simpa using hs.1
    subst this
    exact hv
theorem S1.vwB0 {h : H} {n0 n : Nat} {v : AV} {l : List Bool} {B : List Nat} (hs : S1 h 1 v n (l.map .bool) B) (hb : ∀ b ∈ B, n0 ≤ b) : ∃ o, Vw h n0 v (eO o) ∧ lO o = l := by
  by_cases hn : v = .nils
  · subst hn
    rcases hs.2 with ⟨_, h0, _⟩ | ⟨b, hh, _⟩
    · have hl : l = [] := List.eq_nil_of_length_eq_zero (by have := hs.1; simp at this; omega)
      exact ⟨none, .free free_nils, hl.symm⟩
    · cases hh
  · exact ⟨some l, hs.vwB hb hn, rfl⟩

/-- The bits that are drawn, so far. -/
def BdI (h h' : H) (b : Nat) (c : Option (List UInt8)) (K : Nat) (v : AV) (L : List Bool) : Prop :=
  h.length < h'.length ∧ b < h.length ∧ CurI h' b c K ∧ h'.cells h.length = some [.int .i64 0, .nils] ∧ (∀ k, k < h.length → k ≠ b → h'[k]? = h[k]?) ∧ ∃ B, S1 h' 1 v L.length (L.map .bool) B ∧ ∀ k ∈ B, h.length + 1 ≤ k
theorem BdI.step {h h' h2 : H} {b K K' : Nat} {c : Option (List UInt8)} {v : AV} {L : List Bool} (hp : BdI h h' b c K v L) (hs : CurS h' h2 b c K') : BdI h h2 b c K' v L := by
  obtain ⟨p1, p2, p3, p4, p5, B, p6, p7⟩ := hp
  obtain ⟨s1, s2, s3⟩ := hs
  exact ⟨by omega, p2, s3, cells_keep (s2 _ (by omega)) p4, fun k hk hn => (s2 k hn).trans (p5 k hk hn), B, p6.frame fun k hk => s2 k (by have := p7 k hk; omega), p7⟩
theorem BdI.app {h h' : H} {b K : Nat} {c : Option (List UInt8)} {v : AV} {L : List Bool} {q : Bool} {pm : Nat → Prop} {Q : AV → H → Prop} (hp : BdI h h' b c K v L) (hpm : ∀ k, h.length ≤ k → pm k) (hb : (L.length + 1) * 1 ≤ 140737488355328)
    (hQ : ∀ v' h2, BdI h h2 b c K v' (L ++ [q]) → Q v' h2) : apA pm (h' ++ [some (.cells [.bool q])]) Q 1 1 (some ([.bool q], 1)) v := by
  obtain ⟨p1, p2, p3, p4, p5, B, p6, p7⟩ := hp
  refine (p6.frame (h' := h' ++ _) fun k hk => List.getElem?_append_left (p6.lt k hk)).app0 (new := [.bool q]) (k := 1) (by_ := 1) (fun k hk => hpm k (by have := p7 k hk; omega)) rfl hb fun v2 h2 B2 a1 a2 a3 a4 a5 => ?_
  simp only [List.length_append, List.length_cons, List.length_nil] at a2 a3 a4
  have hk2 : ∀ k, k < h'.length → k ∉ B → h2[k]? = h'[k]? := fun k hk hn => (a3 k (by omega) hn).trans (List.getElem?_append_left hk)
  refine hQ v2 h2 ⟨by omega, p2, p3.frame (hk2 _ (by omega) fun hb => by have := p7 _ hb; omega), cells_keep (hk2 _ p1 fun hb => by have := p7 _ hb; omega) p4, fun k hk hn => (hk2 k (by omega) fun hb => by have := p7 _ hb; omega).trans (p5 k hk hn), B2, by simpa using a1, fun k hk => ?_⟩
  rcases a4 k hk with h5 | h5
  · exact p7 k h5
  · omega

theorem c_spec_l1Cur_bits (b : Nat) (c : Option (List UInt8)) (K : Nat) (h : H) (most : Nat) (hc : CurI h b c K) (hK : K ≤ 100000000) (h1 : 1 ≤ most) (h2 : most ≤ 150) :
    Call Tryd.prog 74 [.adr b 0, .int .i64 most] h (fun b' => b' = b) (fun x h' => ∃ (n m bb B : Nat), x = .agg [.int .i64 n, .sl bb 0 1 m m] ∧ n ≤ most ∧ (((n : Int) + 15) / 16) = (m : Int) ∧ h.length ≤ bb ∧ h.length ≤ h'.length ∧ (∀ k, k < h.length → k ≠ b → h'[k]? = h[k]?) ∧ CurI h' b c (K + 1 + most) ∧ h'.cells bb = some ((wordsN B m).map (.int .i64))) := by
  refine enter (by kernel_rfl) e74 (by kernel_rfl) rfl fun hok => ?_
  simp only [r74, initEnv_2]
  have hbl := hc.lt
  (try (simp (disch := first | omega | (simp <;> omega) | fail) only [push_cast, ↓reduceIte, Nat.reduceEqDiff, Nat.reduceAdd, Nat.reduceMul, Nat.reduceSub, Nat.reduceLT, Int.reduceToNat]))
  refine (c_spec_l1Cur_pick b c K _ ((most : Int) + 1) (hc.frame (List.getElem?_append_left hbl)) (by omega) (by omega) (by omega)).mono (fun x h3 hx => ?_) (fun b' _ hb' => Or.inl hb')
  obtain ⟨⟨n0, rfl, m0, m1⟩, hs⟩ := hx
  obtain ⟨n, rfl⟩ : ∃ n : Nat, n0 = (n : Int) := ⟨n0.toNat, by omega⟩
  have hp0 : BdI h h3 b c (K + 1) .nils [] := by
    obtain ⟨s1, s2, s3⟩ := hs
    simp only [List.length_append, List.length_cons, List.length_nil] at s1
    exact ⟨by omega, hbl, s3, cells_keep (s2 _ (by omega)) (by rw [cells_h0]; rfl), fun k hk hn => (s2 k hn).trans (List.getElem?_append_left hk), [], by simpa using S1.nil, by simp⟩
  (try (simp (disch := first | omega | (simp <;> omega) | fail) only [push_cast, ↓reduceIte, Nat.reduceEqDiff, Nat.reduceAdd, Nat.reduceMul, Nat.reduceSub, Nat.reduceLT, Int.reduceToNat]))
  refine T_for n (fun i e h' => ∃ v L, Pins e [(0, .adr b 0), (4, .adr h.length 0), (5, v), (6, .int .i64 ((n : Int) - i))] ∧ BdI h h' b c (K + 1 + i) v L ∧ L.length = i) ?_ ?_
  · refine ⟨.nils, [], ?_, hp0, rfl⟩
    (try (simp (disch := first | omega | (simp <;> omega) | fail) only [push_cast, ↓reduceIte, Nat.reduceEqDiff, Nat.reduceAdd, Nat.reduceMul, Nat.reduceSub, Nat.reduceLT, Int.reduceToNat]))
    all_goals (try simp)
  rintro i e h' hi ⟨v, L, hp, hb, hL⟩
  refine T_pins hp fun e => ?_
  (try (simp (disch := first | omega | (simp <;> omega) | fail) only [push_cast, ↓reduceIte, Nat.reduceEqDiff, Nat.reduceAdd, Nat.reduceMul, Nat.reduceSub, Nat.reduceLT, Int.reduceToNat]))
  first | refine goC_split (fun hd => ?_) (fun hd => ?_) | refine cnd_split (fun hd => ?_) (fun hd => ?_)
  · (try (simp only [decide_eq_true_eq, decide_eq_false_iff_not, Bool.not_eq_true', Bool.not_eq_false', Bool.and_eq_true, Bool.or_eq_true, Int.not_lt, Int.not_le] at hd)); (try (simp (disch := first | omega | (simp <;> omega) | fail) only [push_cast, ↓reduceIte, Nat.reduceEqDiff, Nat.reduceAdd, Nat.reduceMul, Nat.reduceSub, Nat.reduceLT, Int.reduceToNat]))
    have hi2 : i < n := by omega
    refine (c_spec_l1Cur_one b c (K + 1 + i) h' 2 hb.2.2.1 (by omega) (by omega) (by omega)).mono (fun x h4 hx => ?_) (fun b' _ hb' => Or.inl hb')
    obtain ⟨⟨t, rfl⟩, hs4⟩ := hx
    have hb4 := hb.step hs4
    (try (simp (disch := first | omega | (simp <;> omega) | fail) only [push_cast, ↓reduceIte, Nat.reduceEqDiff, Nat.reduceAdd, Nat.reduceMul, Nat.reduceSub, Nat.reduceLT, Int.reduceToNat]))
    refine BdI.app hb4 (fun k hk => Or.inr hk) (by omega) fun v2 h5 hb5 => ?_
    (try (simp (disch := first | omega | (simp <;> omega) | fail) only [push_cast, ↓reduceIte, Nat.reduceEqDiff, Nat.reduceAdd, Nat.reduceMul, Nat.reduceSub, Nat.reduceLT, Int.reduceToNat]))
    have hb6 : BdI h h5 b c (K + 1 + (i + 1)) v2 (L ++ [t]) := hb5
    have hn6 : ((n : Int) - i) - 1 = (n : Int) - ((i : Int) + 1) := by omega
    all_goals (try exact ⟨_, _, rfl, hb6, by simp [hL]⟩)
    all_goals (try exact ⟨_, _, ⟨rfl, by omega⟩, hb6, by simp [hL]⟩)
    all_goals (try exact ⟨_, _, ⟨rfl, by rw [hn6]⟩, hb6, by simp [hL]⟩)
  · (try (simp only [decide_eq_true_eq, decide_eq_false_iff_not, Bool.not_eq_true', Bool.not_eq_false', Bool.and_eq_true, Bool.or_eq_true, Int.not_lt, Int.not_le] at hd)); (try (simp (disch := first | omega | (simp <;> omega) | fail) only [push_cast, ↓reduceIte, Nat.reduceEqDiff, Nat.reduceAdd, Nat.reduceMul, Nat.reduceSub, Nat.reduceLT, Int.reduceToNat]))
    have hie : i = n := by omega
    subst hie
    obtain ⟨p1, p2, p3, p4, p5, B, p6, p7⟩ := hb
    obtain ⟨o, ho1, ho2⟩ := (p6.frame (h' := filt (fun k => decide (h.length + 1 ≤ k)) h') fun k hk => filt_t (by simpa using p7 k hk)).vwB0 (n0 := 0) (fun _ _ => Nat.zero_le _)
    (try (simp (disch := first | omega | (simp <;> omega) | fail) only [push_cast, ↓reduceIte, Nat.reduceEqDiff, Nat.reduceAdd, Nat.reduceMul, Nat.reduceSub, Nat.reduceLT, Int.reduceToNat]))
    refine Call.sink (fun k => decide (h.length + 1 ≤ k)) (ts := [eO o]) rfl (fun k x t hx ht => ?_) (fun b _ hb => Or.inr (by have := of_decide_eq_true hb; omega)) ?_
    · rcases k with _ | k
      · simp at hx ht
        subst hx ht
        exact .inr ho1
      · simp at hx
    have hol : (lO o).length = i := by rw [ho2, hL]
    have g1 : H.cells (filt (fun k => !decide (h.length + 1 ≤ k)) h') h.length = some [.int .i64 0, .nils] := cells_keep (filt_t (by simp)) p4
    have g2 : ∀ k, k < h.length → (filt (fun k => !decide (h.length + 1 ≤ k)) h')[k]? = h'[k]? := fun k hk => filt_t (by simp; omega)
    have g3 : h.length < (filt (fun k => !decide (h.length + 1 ≤ k)) h').length := by rw [filt_len]; exact p1
    have g4 := p3.frame (g2 b p2)
    generalize filt (fun k => !decide (h.length + 1 ≤ k)) h' = g at *
    refine (c_spec_biSome o ((i + 15) / 16) (by rw [hol]; omega) (by omega) g).mono (fun x g5 hx => ?_) (fun _ _ h => h.elim)
    rw [hol] at hx
    generalize bitN (lO o) i = X at hx
    obtain ⟨bb, rfl, q1, q2, q3, q4⟩ := hx
    have r1 := cells_keep (q3 _ g3) g1
    have hw := cells_wr2 (cells_lt r1) (cs := [AV.int .i64 (i : Int), .sl bb 0 1 ((i + 15) / 16) ((i + 15) / 16)])
    have hpm : (h.length ≤ h.length) = True := by simp
    have hwk : ∀ k, k ≠ h.length → (wr g5 h.length [AV.int .i64 (i : Int), .sl bb 0 1 ((i + 15) / 16) ((i + 15) / 16)])[k]? = g5[k]? := fun k hk => by
      unfold wr
      rw [List.getElem?_set_ne (Ne.symm hk)]
    have f1 : ∀ k, k < h.length → k ≠ b → (wr g5 h.length [AV.int .i64 (i : Int), .sl bb 0 1 ((i + 15) / 16) ((i + 15) / 16)])[k]? = h[k]? := fun k hk hn => (hwk k (by omega)).trans ((q3 k (by omega)).trans ((g2 k hk).trans (p5 k hk hn)))
    have f2 : CurI (wr g5 h.length [AV.int .i64 (i : Int), .sl bb 0 1 ((i + 15) / 16) ((i + 15) / 16)]) b c (K + 1 + most) := ((g4.frame (q3 b (by omega))).frame (hwk b (by omega))).mono (by omega)
    have f3 := cells_keep (hwk bb (by omega)) q4
    have f4 : h.length ≤ (wr g5 h.length [AV.int .i64 (i : Int), .sl bb 0 1 ((i + 15) / 16) ((i + 15) / 16)]).length := by simp [wr]; omega
    (try (simp (disch := first | omega | (simp <;> omega) | fail) only [push_cast, ↓reduceIte, Nat.reduceEqDiff, Nat.reduceAdd, Nat.reduceMul, Nat.reduceSub, Nat.reduceLT, Int.reduceToNat, r1, hpm, hw]))
    all_goals (try exact ⟨i, (i + 15) / 16, bb, X, rfl, by omega, by omega, by omega, f4, f1, f2, f3⟩)
    all_goals (try exact ⟨i, (i + 15) / 16, bb, X, rfl, by omega, by omega, by omega, f1, f2, f3⟩)

theorem c_spec_l1Cur_among (b : Nat) (c : Option (List UInt8)) (K : Nat) (h : H) (b2 : Nat) (L : List Int) (hc : CurI h b c K) (hK : K ≤ 1000000000) (hL : 1 < L.length) (hL2 : L.length ≤ 200) (hb2 : h.cells b2 = some (L.map (.int .i64))) (hne : b2 ≠ b) :
    Call Tryd.prog 76 [.adr b 0, .sl b2 0 1 L.length L.length] h (fun b' => b' = b) (fun x h' => (∃ m : Int, x = .int .i64 m ∧ m ∈ L) ∧ CurS h h' b c (K + 1)) := by
  refine enter (by kernel_rfl) e76 (by kernel_rfl) rfl fun hok => ?_
  simp only [r76, initEnv_2]
  (try (simp (disch := first | omega | (simp <;> omega) | fail) only [push_cast, ↓reduceIte, Nat.reduceEqDiff, Nat.reduceAdd, Nat.reduceMul, Nat.reduceSub, Nat.reduceLT, Int.reduceToNat]))
  refine (c_spec_l1Cur_pick b c K h L.length hc hK (by omega) (by omega)).mono (fun x h' hx => ?_) (fun b' _ hb' => Or.inl hb')
  obtain ⟨⟨m, rfl, m0, m1⟩, hs⟩ := hx
  have hb3 : h'.cells b2 = some (L.map (.int .i64)) := by
    rw [cells_eq, hs.2.1 b2 hne, ← cells_eq]
    exact hb2
  have hmem : L.getD m.toNat 0 ∈ L := by
    have : m.toNat < L.length := by omega
    simp [this]
  (try (simp (disch := first | omega | (simp <;> omega) | fail) only [push_cast, ↓reduceIte, Nat.reduceEqDiff, Nat.reduceAdd, Nat.reduceMul, Nat.reduceSub, Nat.reduceLT, Int.reduceToNat, hb3]))
  all_goals (try exact ⟨⟨_, rfl, hmem⟩, hs⟩)

/-- A vector of the call's own, in a box. -/
def AbI (h h' : H) (b : Nat) (c : Option (List UInt8)) (K b3 N : Nat) : Prop :=
  b < h.length ∧ h.length + 1 ≤ b3 ∧ CurI h' b c K ∧ h'.cells h.length = some [.int .i64 0, .nils] ∧ (∀ k, k < h.length → k ≠ b → h'[k]? = h[k]?) ∧
  ∃ (n : Int) (v : AV) (l : List Int), h'.cells b3 = some [.int .i64 n, v] ∧ -(N : Int) ≤ n ∧ n ≤ 5000 + (N : Int) ∧ l.length ≤ N ∧ (∃ bb, v = .sl bb 0 1 l.length l.length ∧ h'.cells bb = some (l.map (.int .i64)) ∧ h.length + 1 ≤ bb ∧ bb ≠ b3)
theorem AbI.step {h h' h2 : H} {b K K' b3 N : Nat} {c : Option (List UInt8)} (hp : AbI h h' b c K b3 N) (hs : CurS h' h2 b c K') : AbI h h2 b c K' b3 N := by
  obtain ⟨p1, p2, p3, p4, p5, n, v, l, p6, p7, p8, p9, bb, p10, p11, p12, p13⟩ := hp
  obtain ⟨s1, s2, s3⟩ := hs
  exact ⟨p1, p2, s3, cells_keep (s2 _ (by omega)) p4, fun k hk hn => (s2 k hn).trans (p5 k hk hn), n, v, l, cells_keep (s2 _ (by omega)) p6, p7, p8, p9, bb, p10, cells_keep (s2 _ (by omega)) p11, p12, p13⟩
theorem AbI.more {h h' l : H} {b K b3 N : Nat} {c : Option (List UInt8)} (hp : AbI h h' b c K b3 N) : AbI h (h' ++ l) b c K b3 N := by
  obtain ⟨p1, p2, p3, p4, p5, n, v, l, p6, p7, p8, p9, bb, p10, p11, p12, p13⟩ := hp
  have h0 := cells_lt p4
  exact ⟨p1, p2, p3.frame (List.getElem?_append_left p3.lt), cells_app p4, fun k hk hn => (List.getElem?_append_left (by omega)).trans (p5 k hk hn), n, v, l, cells_app p6, p7, p8, p9, bb, p10, cells_app p11, p12, p13⟩
theorem AbI.monoK {h h' : H} {b K K' b3 N : Nat} {c : Option (List UInt8)} (hp : AbI h h' b c K b3 N) (hk : K ≤ K') : AbI h h' b c K' b3 N := by
  obtain ⟨p1, p2, p3, p4⟩ := hp
  exact ⟨p1, p2, p3.mono hk, p4⟩
theorem AbI.store {h g g2 : H} {b K b3 N N2 bb2 : Nat} {c : Option (List UInt8)} {n2 : Int} {l2 : List Int} (hp : AbI h g b c K b3 N) (hk : ∀ k, k < h.length + 1 ∨ k = b3 → g2[k]? = g[k]?) (hl : g.length ≤ g2.length) (h1 : -(N2 : Int) ≤ n2) (h2 : n2 ≤ 5000 + (N2 : Int)) (h3 : l2.length ≤ N2) (hb : g2.cells bb2 = some (l2.map (.int .i64))) (hb1 : h.length + 1 ≤ bb2) (hb2 : bb2 ≠ b3) :
    AbI h (wr g2 b3 [.int .i64 n2, .sl bb2 0 1 l2.length l2.length]) b c K b3 N2 := by
  obtain ⟨p1, p2, p3, p4, p5, n, v, l, p6, _⟩ := hp
  have hb3 := cells_lt p6
  have hw : ∀ k, k ≠ b3 → (wr g2 b3 [.int .i64 n2, .sl bb2 0 1 l2.length l2.length])[k]? = g2[k]? := fun k hk => by
    unfold wr
    rw [List.getElem?_set_ne (Ne.symm hk)]
  exact ⟨p1, p2, p3.frame ((hw _ (by omega)).trans (hk _ (.inl (by omega)))), cells_keep ((hw _ (by omega)).trans (hk _ (.inl (by omega)))) p4, fun k hk1 hn => (hw _ (by omega)).trans ((hk _ (.inl (by omega))).trans (p5 k hk1 hn)), n2, _, l2, cells_wr2 (by omega), h1, h2, h3, bb2, rfl, cells_keep (hw _ hb2) hb, hb1, hb2⟩
theorem AbI.put {h g : H} {b K b3 N bb : Nat} {c : Option (List UInt8)} {n : Int} {l l2 : List Int} (hp : AbI h g b c K b3 N) (h6 : g.cells b3 = some [.int .i64 n, .sl bb 0 1 l.length l.length]) (hn1 : -(N : Int) ≤ n) (hn2 : n ≤ 5000 + (N : Int)) (hN : l.length ≤ N) (hb1 : h.length + 1 ≤ bb) (hb2 : bb ≠ b3) (hb : bb < g.length) (hl : l2.length = l.length) :
    AbI h (wr g bb (l2.map (.int .i64))) b c K b3 N := by
  obtain ⟨p1, p2, p3, p4, p5, _⟩ := hp
  have hw : ∀ k, k ≠ bb → (wr g bb (l2.map (.int .i64)))[k]? = g[k]? := fun k hk => by
    unfold wr
    rw [List.getElem?_set_ne (Ne.symm hk)]
  exact ⟨p1, p2, p3.frame (hw _ (by omega)), cells_keep (hw _ (by omega)) p4, fun k hk1 hn => (hw _ (by omega)).trans (p5 k hk1 hn), n, _, l2, cells_keep (hw _ (Ne.symm hb2)) h6, hn1, hn2, by omega, bb, by rw [hl], cells_wr2 hb, hb1, hb2⟩
theorem set_over2 {vs : List Int} {i : Nat} {x : Int} (hi : i < vs.length) : over (vs.map (AV.int .i64)) i [.int .i64 x] = (vs.set i x).map (.int .i64) := by
  rw [over_set (by simpa using hi), List.map_set]

set_option maxHeartbeats 4000000 in
theorem c_spec_l1Cur_anyBits (b : Nat) (c : Option (List UInt8)) (K : Nat) (h : H) (hc : CurI h b c K) (hK : K ≤ 10000000) :
    Call Tryd.prog 41 [.adr b 0] h (fun b' => b' = b) (fun x h' => ∃ (n : Int) (l : List Int) (bb : Nat), x = .agg [.int .i64 n, .sl bb 0 1 l.length l.length] ∧ l.length ≤ 300 ∧ h.length ≤ bb ∧ h.length ≤ h'.length ∧ (∀ k, k < h.length → k ≠ b → h'[k]? = h[k]?) ∧ CurI h' b c (K + 60) ∧ h'.cells bb = some (l.map (.int .i64))) := by
  refine enter (by kernel_rfl) e41 (by kernel_rfl) rfl fun hok => ?_
  simp only [r41, initEnv_1]
  generalize hD : RCode.block 0 _ = D
  have hbl := hc.lt
  (try (simp (disch := first | omega | (simp <;> omega) | fail) only [push_cast, ↓reduceIte, Nat.reduceEqDiff, Nat.reduceAdd, Nat.reduceMul, Nat.reduceSub, Nat.reduceLT, Int.reduceToNat]))
  refine (c_spec_l1Cur_bits b c K _ 40 (hc.frame (List.getElem?_append_left hbl)) (by omega) (by omega) (by omega)).mono (fun x h1 hx => ?_) (fun b' _ hb' => Or.inl hb')
  obtain ⟨n, m, bb, B, rfl, q1, q2, q3, q4, q5, q6, q7⟩ := hx
  simp only [List.length_append, List.length_cons, List.length_nil] at q3 q4
  have hA : AbI h (h1 ++ [some (.cells [.int .i64 n, .sl bb 0 1 m m])]) b c (K + 41) h1.length 10 := by
    have hb1 := cells_lt q7
    refine ⟨hbl, by omega, (q6.frame (List.getElem?_append_left q6.lt)).mono (by omega), cells_app (cells_keep (q5 h.length (by simp) (by omega)) (by rw [cells_h0]; rfl)), fun k hk hn => (List.getElem?_append_left (by omega)).trans ((q5 k (by simp; omega) hn).trans (List.getElem?_append_left hk)), n, _, wordsN B m, by rw [cells_h0]; rfl, by omega, by omega, by rw [wordsN_len]; omega, bb, by rw [wordsN_len], cells_app q7, by omega, by omega⟩
  clear q1 q2 q5 q6 q7
  have hb3 : h1.length = h1.length := rfl
  (try (simp (disch := first | omega | (simp <;> omega) | fail) only [push_cast, ↓reduceIte, Nat.reduceEqDiff, Nat.reduceAdd, Nat.reduceMul, Nat.reduceSub, Nat.reduceLT, Int.reduceToNat]))
  generalize hG : h1 ++ [some (.cells [.int .i64 (n : Int), .sl bb 0 1 m m])] = g at *
  generalize h1.length = b3 at *
  refine (c_spec_l1Cur_pick b c (K + 41) _ 16 hA.2.2.1 (by omega) (by omega) (by omega)).mono (fun x h2 hx => ?_) (fun b' _ hb' => Or.inl hb')
  obtain ⟨⟨k, rfl, k0, k1⟩, hs⟩ := hx
  have hA2 := hA.step hs
  clear hA hG hs
  (try (simp (disch := first | omega | (simp <;> omega) | fail) only [push_cast, ↓reduceIte, Nat.reduceEqDiff, Nat.reduceAdd, Nat.reduceMul, Nat.reduceSub, Nat.reduceLT, Int.reduceToNat]))
  refine T_cut (fun e g => Pins e [(2, .adr h.length 0), (3, .adr b3 0)] ∧ AbI h g b c (K + 60) b3 300) ?_ ?_
  · rw [← hD]
    obtain ⟨p1, p2, p3, p4, p5, n, v, l, p6, p7, p8, p9, bb, hv, p11, p12, p13⟩ := id hA2
    have hv1 : one v = true := by rw [hv]; rfl
    have hv2 : cellsOf v = [v] := by rw [hv]; rfl
    have hb3 := cells_lt p6
    have hbb := cells_lt p11
    have p6' : ∀ l' : H, H.cells (h2 ++ l') b3 = some [.int .i64 n, v] := fun l' => cells_app p6
    by_cases z0 : k = 0
    · (try (simp (disch := first | omega | (simp <;> omega) | fail) only [push_cast, ↓reduceIte, Nat.reduceEqDiff, Nat.reduceAdd, Nat.reduceMul, Nat.reduceSub, Nat.reduceLT, Int.reduceToNat, z0, p6, reads, List.mem_cons, List.mem_append, List.not_mem_nil, nat_ff, or_self, or_false, false_or, not_false_eq_true]))
      repeat' (with_reducible refine And.intro ?_ ?_)
      all_goals
        refine (c_spec_l1Cur_pick b c (K + 42) _ 2 hA2.2.2.1 (by omega) (by omega) (by omega)).mono (fun x h4 hx => ?_) (fun b' _ hb' => Or.inl hb')
        obtain ⟨⟨q, rfl, q0, q1⟩, hs⟩ := hx
        have hA4 := hA2.step hs
        have r6 := cells_keep (hs.2.1 b3 (by omega)) p6
        have r6' : ∀ l' : H, H.cells (h4 ++ l') b3 = some [.int .i64 n, v] := fun l' => cells_app r6
        have r11 := cells_keep (hs.2.1 bb (by omega)) p11
        have hs1 : S1 h4 1 v l.length (l.map (.int .i64)) [bb] := ⟨by simp, .inr ⟨bb, hv, rfl, r11⟩⟩
        have l4 := cells_lt r11
        have l5 := cells_lt r6
        (try (simp (disch := first | omega | (simp <;> omega) | fail) only [push_cast, ↓reduceIte, Nat.reduceEqDiff, Nat.reduceAdd, Nat.reduceMul, Nat.reduceSub, Nat.reduceLT, Int.reduceToNat, r6, r6', reads, List.mem_cons, List.mem_append, List.not_mem_nil, nat_ff, or_self, or_false, false_or, not_false_eq_true]))
        repeat' (with_reducible refine And.intro ?_ ?_)
      all_goals
        refine (hs1.frame (h' := h4 ++ _) fun k hk => List.getElem?_append_left (hs1.lt k hk)).app0 (new := [.int .i64 q]) (k := 1) (by_ := 8) (fun k hk => Or.inr (by simp at hk; omega)) rfl (by omega) fun v2 h5 B2 a1 a2 a3 a4 a5 => ?_
        rcases a1.2 with ⟨_, h0, _⟩ | ⟨b2, rfl, rfl, hc2⟩
        · omega
        simp only [List.length_append, List.length_cons, List.length_nil] at a2 a3 a4
        have l6 := cells_lt p4
        have l7 := hs.1
        have hk5 : ∀ k, k < h.length + 1 ∨ k = b3 → h5[k]? = h4[k]? := fun k hk => (a3 k (by omega) (by simp; omega)).trans (List.getElem?_append_left (by omega))
        have hb2 := a4 b2 (by simp)
        simp only [List.mem_singleton] at hb2
        have hlen : (l ++ [q]).length = l.length + 1 := by simp
        have hfin := hA4.store (n2 := n) (l2 := l ++ [q]) (bb2 := b2) (N2 := 300) hk5 (by omega) (by omega) (by omega) (by rw [hlen]; omega) (by simpa using hc2) (by omega) (by omega)
        have t6 := cells_keep (hk5 b3 (.inr rfl)) r6
        rw [hlen] at hfin
        (try (simp (disch := first | omega | (simp <;> omega) | fail) only [push_cast, ↓reduceIte, Nat.reduceEqDiff, Nat.reduceAdd, Nat.reduceMul, Nat.reduceSub, Nat.reduceLT, Int.reduceToNat, t6, reads, List.mem_cons, List.mem_append, List.not_mem_nil, nat_ff, or_self, or_false, false_or, not_false_eq_true]))
        all_goals (try exact hfin.monoK (by omega))
    by_cases z1 : k = 1
    · (try (simp (disch := first | omega | (simp <;> omega) | fail) only [push_cast, ↓reduceIte, Nat.reduceEqDiff, Nat.reduceAdd, Nat.reduceMul, Nat.reduceSub, Nat.reduceLT, Int.reduceToNat, z1, p6, reads, List.mem_cons, List.mem_append, List.not_mem_nil, nat_ff, or_self, or_false, false_or, not_false_eq_true]))
      repeat' (with_reducible refine And.intro ?_ ?_)
      all_goals
        refine (c_spec_l1Cur_pick b c (K + 42) _ 3 hA2.2.2.1 (by omega) (by omega) (by omega)).mono (fun x h4 hx => ?_) (fun b' _ hb' => Or.inl hb')
        obtain ⟨⟨q, rfl, q0, q1⟩, hs⟩ := hx
        have hA4 := hA2.step hs
        have r6 := cells_keep (hs.2.1 b3 (by omega)) p6
        have r11 := cells_keep (hs.2.1 bb (by omega)) p11
        have hfin := hA4.store (n2 := n + (q - 1)) (l2 := l) (bb2 := bb) (N2 := 300) (fun _ _ => rfl) (Nat.le_refl _) (by omega) (by omega) (by omega) r11 (by omega) (by omega)
        rw [← hv] at hfin
        (try (simp (disch := first | omega | (simp <;> omega) | fail) only [push_cast, ↓reduceIte, Nat.reduceEqDiff, Nat.reduceAdd, Nat.reduceMul, Nat.reduceSub, Nat.reduceLT, Int.reduceToNat, r6, reads, List.mem_cons, List.mem_append, List.not_mem_nil, nat_ff, or_self, or_false, false_or, not_false_eq_true]))
      all_goals (try exact hfin.monoK (by omega))
    by_cases z2 : k = 2
    · have hlv : lenA v = some (.int .i64 l.length) := by rw [hv]; rfl
      have hrep : List.replicate 4 (AV.int .i64 0) = [.int .i64 0, .int .i64 0, .int .i64 0, .int .i64 0] := rfl
      have ov0 := fun x0 x1 x2 x3 y => (over4 x0 x1 x2 x3 y).1
      have ov1 := fun x0 x1 x2 x3 y => (over4 x0 x1 x2 x3 y).2.1
      have ov2 := fun x0 x1 x2 x3 y => (over4 x0 x1 x2 x3 y).2.2.1
      have ov3 := fun x0 x1 x2 x3 y => (over4 x0 x1 x2 x3 y).2.2.2
      have hfin0 : AbI h h2 b c (K + 60) b3 300 := by
        obtain ⟨o1, o2, o3, o4, o5, n', v', l', o6, o7, o8, o9, o10⟩ := hA2.monoK (show K + 41 + 1 ≤ K + 60 by omega)
        exact ⟨o1, o2, o3, o4, o5, n', v', l', o6, by omega, by omega, by omega, o10⟩
      have fin : ∀ (g h7 : H) (q m : Int) (K' : Nat), AbI h g b c K' b3 10 → CurS g h7 b c (K + 50) → g.cells b3 = some [.int .i64 n, v] → g.cells bb = some (l.map (.int .i64)) → h7.cells bb = some (l.map (.int .i64)) ∧ AbI h (wr h7 bb ((l.set q.toNat m).map (.int .i64))) b c (K + 60) b3 300 := fun g h7 q m K' hg hs g6 g11 => by
        have hA7 := (hg.step hs).monoK (show K + 50 ≤ K + 60 by omega)
        have t6 := cells_keep (hs.2.1 b3 (by omega)) g6
        have t11 := cells_keep (hs.2.1 bb (by omega)) g11
        rw [hv] at t6
        have := hA7.put (l2 := l.set q.toNat m) t6 p7 p8 p9 p12 p13 (cells_lt t11) (by simp)
        obtain ⟨o1, o2, o3, o4, o5, n', v', l', o6, o7, o8, o9, o10⟩ := this
        exact ⟨t11, o1, o2, o3, o4, o5, n', v', l', o6, by omega, by omega, by omega, o10⟩
      (try (simp (disch := first | omega | (simp <;> omega) | fail) only [push_cast, ↓reduceIte, Nat.reduceEqDiff, Nat.reduceAdd, Nat.reduceMul, Nat.reduceSub, Nat.reduceLT, Int.reduceToNat, z2, p6, hlv, reads, List.mem_cons, List.mem_append, List.not_mem_nil, nat_ff, or_self, or_false, false_or, not_false_eq_true]))
      first | refine goC_split (fun hd => ?_) (fun hd => ?_) | refine cnd_split (fun hd => ?_) (fun hd => ?_)
      · (try (simp only [decide_eq_true_eq, decide_eq_false_iff_not, Bool.not_eq_true', Bool.not_eq_false', Bool.and_eq_true, Bool.or_eq_true, Int.not_lt, Int.not_le] at hd)); (try (simp (disch := first | omega | (simp <;> omega) | fail) only [push_cast, ↓reduceIte, Nat.reduceEqDiff, Nat.reduceAdd, Nat.reduceMul, Nat.reduceSub, Nat.reduceLT, Int.reduceToNat]))
        subst hv
        have hpm2 : (bb = b ∨ h.length ≤ bb) = True := by rw [eq_iff_iff]; exact ⟨fun _ => trivial, fun _ => Or.inr (by omega)⟩
        (try (simp (disch := first | omega | (simp <;> omega) | fail) only [push_cast, ↓reduceIte, Nat.reduceEqDiff, Nat.reduceAdd, Nat.reduceMul, Nat.reduceSub, Nat.reduceLT, Int.reduceToNat, p6, p6', hrep, ov0, ov1, ov2, ov3, reads, List.mem_cons, List.mem_append, List.not_mem_nil, nat_ff, or_self, or_false, false_or, not_false_eq_true]))
        repeat' (with_reducible refine And.intro ?_ ?_)
        all_goals
          first
          | (refine (c_spec_l1Cur_pickAny b c (K + 42) h2 (l.length : Int) hA2.2.2.1 (by omega) (by omega)).mono (fun x h4 hx => ?_) (fun b' _ hb' => Or.inl hb')
             obtain ⟨⟨q, rfl, q0, q1⟩, hs⟩ := hx
             have hA4 := hA2.step hs
             have r6 := cells_keep (hs.2.1 b3 (by omega)) p6
             have r6' := fun l' : H => cells_app (l := l') r6
             have r11 := cells_keep (hs.2.1 bb (by omega)) p11
             have l4 := cells_lt r11
             have l5 := cells_lt r6
             (try (simp (disch := first | omega | (simp <;> omega) | fail) only [push_cast, ↓reduceIte, Nat.reduceEqDiff, Nat.reduceAdd, Nat.reduceMul, Nat.reduceSub, Nat.reduceLT, Int.reduceToNat, r6, r6', hrep, ov0, ov1, ov2, ov3, reads, List.mem_cons, List.mem_append, List.not_mem_nil, nat_ff, or_self, or_false, false_or, not_false_eq_true]))
             repeat' (with_reducible refine And.intro ?_ ?_)
             all_goals
               refine (c_spec_l1Cur_among b c (K + 43) (h4 ++ [some (AObj.cells (([-1, 65535, 65536, 40000] : List Int).map (.int .i64)))]) h4.length [-1, 65535, 65536, 40000] hA4.more.2.2.1 (by omega) (by decide) (by decide) (by rw [cells_h0]; rfl) (by omega)).mono (fun x h7 hx => ?_) (fun b' _ hb' => Or.inl hb')
               obtain ⟨⟨mm, rfl, _⟩, hs7⟩ := hx
               obtain ⟨t11, hfin⟩ := fin _ h7 q mm _ hA4.more ⟨hs7.1, hs7.2.1, hs7.2.2.mono (by omega)⟩ (cells_app r6) (cells_app r11)
               have t6 := cells_keep (hs7.2.1 b3 (by omega)) (cells_app r6)
               have hov := set_over2 (vs := l) (i := q.toNat) (x := mm) (by omega)
               have hll : (l.map (AV.int .i64)).length = l.length := by simp
               (try (simp (disch := first | omega | (simp <;> omega) | fail) only [push_cast, ↓reduceIte, Nat.reduceEqDiff, Nat.reduceAdd, Nat.reduceMul, Nat.reduceSub, Nat.reduceLT, Int.reduceToNat, t6, t11, hll, hov, hpm2, reads, List.mem_cons, List.mem_append, List.not_mem_nil, nat_ff, or_self, or_false, false_or, not_false_eq_true]))
               all_goals (try exact hfin))
          | (refine (c_spec_l1Cur_pickAny b c (K + 42) (h2 ++ [some (AObj.cells (([-1, 65535, 65536, 40000] : List Int).map (.int .i64)))]) (l.length : Int) hA2.more.2.2.1 (by omega) (by omega)).mono (fun x h4 hx => ?_) (fun b' _ hb' => Or.inl hb')
             obtain ⟨⟨q, rfl, q0, q1⟩, hs⟩ := hx
             have hA4 := hA2.more.step hs
             have r6 := cells_keep (hs.2.1 b3 (by omega)) (cells_app p6)
             have r6' := fun l' : H => cells_app (l := l') r6
             have r11 := cells_keep (hs.2.1 bb (by omega)) (cells_app p11)
             have rl : h4.cells h2.length = some (([-1, 65535, 65536, 40000] : List Int).map (.int .i64)) := cells_keep (hs.2.1 h2.length (by omega)) (by rw [cells_h0]; rfl)
             have l4 := cells_lt r11
             have l5 := cells_lt r6
             (try (simp (disch := first | omega | (simp <;> omega) | fail) only [push_cast, ↓reduceIte, Nat.reduceEqDiff, Nat.reduceAdd, Nat.reduceMul, Nat.reduceSub, Nat.reduceLT, Int.reduceToNat, r6, r6', reads, List.mem_cons, List.mem_append, List.not_mem_nil, nat_ff, or_self, or_false, false_or, not_false_eq_true]))
             repeat' (with_reducible refine And.intro ?_ ?_)
             all_goals
               refine (c_spec_l1Cur_among b c (K + 43) h4 h2.length [-1, 65535, 65536, 40000] hA4.2.2.1 (by omega) (by decide) (by decide) rl (by omega)).mono (fun x h7 hx => ?_) (fun b' _ hb' => Or.inl hb')
               obtain ⟨⟨mm, rfl, _⟩, hs7⟩ := hx
               obtain ⟨t11, hfin⟩ := fin _ h7 q mm _ hA4 ⟨hs7.1, hs7.2.1, hs7.2.2.mono (by omega)⟩ r6 r11
               have t6 := cells_keep (hs7.2.1 b3 (by omega)) r6
               have hov := set_over2 (vs := l) (i := q.toNat) (x := mm) (by omega)
               have hll : (l.map (AV.int .i64)).length = l.length := by simp
               (try (simp (disch := first | omega | (simp <;> omega) | fail) only [push_cast, ↓reduceIte, Nat.reduceEqDiff, Nat.reduceAdd, Nat.reduceMul, Nat.reduceSub, Nat.reduceLT, Int.reduceToNat, t6, t11, hll, hov, hpm2, reads, List.mem_cons, List.mem_append, List.not_mem_nil, nat_ff, or_self, or_false, false_or, not_false_eq_true]))
               all_goals (try exact hfin))
      · (try (simp only [decide_eq_true_eq, decide_eq_false_iff_not, Bool.not_eq_true', Bool.not_eq_false', Bool.and_eq_true, Bool.or_eq_true, Int.not_lt, Int.not_le] at hd)); (try (simp (disch := first | omega | (simp <;> omega) | fail) only [push_cast, ↓reduceIte, Nat.reduceEqDiff, Nat.reduceAdd, Nat.reduceMul, Nat.reduceSub, Nat.reduceLT, Int.reduceToNat]))
        (try (simp (disch := first | omega | (simp <;> omega) | fail) only [push_cast, ↓reduceIte, Nat.reduceEqDiff, Nat.reduceAdd, Nat.reduceMul, Nat.reduceSub, Nat.reduceLT, Int.reduceToNat, reads, List.mem_cons, List.mem_append, List.not_mem_nil, nat_ff, or_self, or_false, false_or, not_false_eq_true]))
        all_goals (try exact hfin0)
    by_cases z3 : k = 3
    · (try (simp (disch := first | omega | (simp <;> omega) | fail) only [push_cast, ↓reduceIte, Nat.reduceEqDiff, Nat.reduceAdd, Nat.reduceMul, Nat.reduceSub, Nat.reduceLT, Int.reduceToNat, z3, reads, List.mem_cons, List.mem_append, List.not_mem_nil, nat_ff, or_self, or_false, false_or, not_false_eq_true]))
      refine (c_spec_l1Cur_pick b c (K + 42) _ 2 hA2.2.2.1 (by omega) (by omega) (by omega)).mono (fun x h4 hx => ?_) (fun b' _ hb' => Or.inl hb')
      obtain ⟨⟨q, rfl, q0, q1⟩, hs⟩ := hx
      have hA4 := hA2.step hs
      have r6 := cells_keep (hs.2.1 b3 (by omega)) p6
      obtain ⟨nn, hnn⟩ : ∃ nn : Nat, (4096 : Int) - q = (nn : Int) := ⟨((4096 : Int) - q).toNat, by omega⟩
      (try (simp (disch := first | omega | (simp <;> omega) | fail) only [push_cast, ↓reduceIte, Nat.reduceEqDiff, Nat.reduceAdd, Nat.reduceMul, Nat.reduceSub, Nat.reduceLT, Int.reduceToNat, hnn]))
      refine (c_spec_biNew_own nn ((nn + 15) / 16) (by omega) (by omega) _).mono (fun x h5 hx => ?_) (fun _ _ h => h.elim)
      obtain ⟨b5, rfl, t1, ⟨p, rfl⟩, t3⟩ := hx
      have l6 := cells_lt p4
      have l7 := hs.1
      have l8 := cells_lt r6
      have hlen : (wordsN 0 ((nn + 15) / 16)).length = (nn + 15) / 16 := wordsN_len
      have hfin := hA4.store (g2 := h4 ++ p) (n2 := nn) (l2 := wordsN 0 ((nn + 15) / 16)) (bb2 := b5) (N2 := 300) (fun k hk => List.getElem?_append_left (by omega)) (by simp) (by omega) (by omega) (by omega) t3 (by omega) (by omega)
      rw [hlen] at hfin
      have t6 := cells_app (l := p) r6
      (try (simp (disch := first | omega | (simp <;> omega) | fail) only [push_cast, ↓reduceIte, Nat.reduceEqDiff, Nat.reduceAdd, Nat.reduceMul, Nat.reduceSub, Nat.reduceLT, Int.reduceToNat, r6, t6, reads, List.mem_cons, List.mem_append, List.not_mem_nil, nat_ff, or_self, or_false, false_or, not_false_eq_true]))
      all_goals (try exact hfin.monoK (by omega))
    by_cases z4 : k = 4
    · (try (simp (disch := first | omega | (simp <;> omega) | fail) only [push_cast, ↓reduceIte, Nat.reduceEqDiff, Nat.reduceAdd, Nat.reduceMul, Nat.reduceSub, Nat.reduceLT, Int.reduceToNat, z4, reads, List.mem_cons, List.mem_append, List.not_mem_nil, nat_ff, or_self, or_false, false_or, not_false_eq_true]))
      refine (c_spec_l1Cur_pick b c (K + 42) _ 5 hA2.2.2.1 (by omega) (by omega) (by omega)).mono (fun x h4 hx => ?_) (fun b' _ hb' => Or.inl hb')
      obtain ⟨⟨q, rfl, q0, q1⟩, hs⟩ := hx
      have hA4 := hA2.step hs
      have r6 := cells_keep (hs.2.1 b3 (by omega)) p6
      obtain ⟨nn, hnn⟩ : ∃ nn : Nat, (16 : Int) * q = (nn : Int) := ⟨((16 : Int) * q).toNat, by omega⟩
      (try (simp (disch := first | omega | (simp <;> omega) | fail) only [push_cast, ↓reduceIte, Nat.reduceEqDiff, Nat.reduceAdd, Nat.reduceMul, Nat.reduceSub, Nat.reduceLT, Int.reduceToNat, hnn]))
      refine (c_spec_biNew_own nn ((nn + 15) / 16) (by omega) (by omega) _).mono (fun x h5 hx => ?_) (fun _ _ h => h.elim)
      obtain ⟨b5, rfl, t1, ⟨p, rfl⟩, t3⟩ := hx
      have l6 := cells_lt p4
      have l7 := hs.1
      have l8 := cells_lt r6
      have hlen : (wordsN 0 ((nn + 15) / 16)).length = (nn + 15) / 16 := wordsN_len
      have hfin := hA4.store (g2 := h4 ++ p) (n2 := nn) (l2 := wordsN 0 ((nn + 15) / 16)) (bb2 := b5) (N2 := 300) (fun k hk => List.getElem?_append_left (by omega)) (by simp) (by omega) (by omega) (by omega) t3 (by omega) (by omega)
      rw [hlen] at hfin
      have t6 := cells_app (l := p) r6
      (try (simp (disch := first | omega | (simp <;> omega) | fail) only [push_cast, ↓reduceIte, Nat.reduceEqDiff, Nat.reduceAdd, Nat.reduceMul, Nat.reduceSub, Nat.reduceLT, Int.reduceToNat, r6, t6, reads, List.mem_cons, List.mem_append, List.not_mem_nil, nat_ff, or_self, or_false, false_or, not_false_eq_true]))
      all_goals (try exact hfin.monoK (by omega))
    have hfin : AbI h h2 b c (K + 60) b3 300 := by
      obtain ⟨o1, o2, o3, o4, o5, n', v', l', o6, o7, o8, o9, o10⟩ := hA2.monoK (show K + 41 + 1 ≤ K + 60 by omega)
      exact ⟨o1, o2, o3, o4, o5, n', v', l', o6, by omega, by omega, by omega, o10⟩
    (try (simp (disch := first | omega | (simp <;> omega) | fail) only [push_cast, ↓reduceIte, Nat.reduceEqDiff, Nat.reduceAdd, Nat.reduceMul, Nat.reduceSub, Nat.reduceLT, Int.reduceToNat, z0, z1, z2, z3, z4, reads, List.mem_cons, List.mem_append, List.not_mem_nil, nat_ff, or_self, or_false, false_or, not_false_eq_true]))
    all_goals (try exact hfin)
  rintro e g ⟨hp, hA3⟩
  refine K_pins hp fun e => ?_
  obtain ⟨p1, p2, p3, p4, p5, n, v, l, p6, p7, p8, p9, bb, rfl, p11, p12, p13⟩ := hA3
  have h0 := cells_lt p4
  have hw := cells_wr2 h0 (cs := [AV.int .i64 n, .sl bb 0 1 l.length l.length])
  have hpm : (h.length ≤ h.length) = True := by simp
  have hwk : ∀ k, k ≠ h.length → (wr g h.length [AV.int .i64 n, .sl bb 0 1 l.length l.length])[k]? = g[k]? := fun k hk => by
    unfold wr
    rw [List.getElem?_set_ne (Ne.symm hk)]
  have f1 : ∀ k, k < h.length → k ≠ b → (wr g h.length [AV.int .i64 n, .sl bb 0 1 l.length l.length])[k]? = h[k]? := fun k hk hn => (hwk k (by omega)).trans (p5 k hk hn)
  have f2 := p3.frame (hwk b (by omega))
  have f3 := cells_keep (hwk bb (by omega)) p11
  have f4 : h.length ≤ (wr g h.length [AV.int .i64 n, .sl bb 0 1 l.length l.length]).length := by simp [wr]; omega
  (try (simp (disch := first | omega | (simp <;> omega) | fail) only [push_cast, ↓reduceIte, Nat.reduceEqDiff, Nat.reduceAdd, Nat.reduceMul, Nat.reduceSub, Nat.reduceLT, Int.reduceToNat, p4, p6, hpm, hw]))
  all_goals (try exact ⟨n, l, bb, rfl, p9, by omega, f4, f1, f2, f3⟩)
  all_goals (try exact ⟨n, l, bb, rfl, p9, by omega, f1, f2, f3⟩)

theorem c_laws_eqIntS (a b : Option (List Int)) : Fn Tryd.prog 38 [eI a, eI b] (· = .bool (decide (lI a = lI b))) := by
  refine Fn.of free_bool fun h => ?_
  refine enter (by kernel_rfl) e38 (by kernel_rfl) rfl fun hok => ?_
  simp only [r38, initEnv_2]
  have ha := ok_eI (okV_0 hok)
  have hb := ok_eI (okV_1 hok)
  (try (simp (disch := first | omega | (simp <;> omega) | fail) only [push_cast, ↓reduceIte, Nat.reduceEqDiff, Nat.reduceAdd, Nat.reduceMul, Nat.reduceSub, Nat.reduceLT, Int.reduceToNat]))
  first | refine goC_split (fun hc => ?_) (fun hc => ?_) | refine cnd_split (fun hc => ?_) (fun hc => ?_)
  · (try (simp only [decide_eq_true_eq, decide_eq_false_iff_not, Bool.not_eq_true', Bool.not_eq_false', Bool.and_eq_true, Bool.or_eq_true, Int.not_lt, Int.not_le] at hc)); (try (simp (disch := first | omega | (simp <;> omega) | fail) only [push_cast, ↓reduceIte, Nat.reduceEqDiff, Nat.reduceAdd, Nat.reduceMul, Nat.reduceSub, Nat.reduceLT, Int.reduceToNat]))
    congr 1
    symm
    rw [decide_eq_false_iff_not]
    intro he
    rw [he] at hc
    exact hc rfl
  have hlen : (lI a).length = (lI b).length := by (try (simp only [decide_eq_true_eq, decide_eq_false_iff_not, Bool.not_eq_true', Bool.not_eq_false', Bool.and_eq_true, Bool.or_eq_true, Int.not_lt, Int.not_le] at hc)); (try (simp (disch := first | omega | (simp <;> omega) | fail) only [push_cast, ↓reduceIte, Nat.reduceEqDiff, Nat.reduceAdd, Nat.reduceMul, Nat.reduceSub, Nat.reduceLT, Int.reduceToNat])); omega
  (try (simp (disch := first | omega | (simp <;> omega) | fail) only [push_cast, ↓reduceIte, Nat.reduceEqDiff, Nat.reduceAdd, Nat.reduceMul, Nat.reduceSub, Nat.reduceLT, Int.reduceToNat]))
  refine T_for (lI a).length (fun i e h' => Pins e [(0, eI a), (1, eI b), (5, .int .i64 i)] ∧ h' = h ∧ (lI a).take i = (lI b).take i) ?_ ?_
  · (try (simp (disch := first | omega | (simp <;> omega) | fail) only [push_cast, ↓reduceIte, Nat.reduceEqDiff, Nat.reduceAdd, Nat.reduceMul, Nat.reduceSub, Nat.reduceLT, Int.reduceToNat]))
    simp
  rintro i e h' hi ⟨hp, rfl, he⟩
  refine T_pins hp fun e => ?_
  (try (simp (disch := first | omega | (simp <;> omega) | fail) only [push_cast, ↓reduceIte, Nat.reduceEqDiff, Nat.reduceAdd, Nat.reduceMul, Nat.reduceSub, Nat.reduceLT, Int.reduceToNat]))
  first | refine goC_split (fun hc => ?_) (fun hc => ?_) | refine cnd_split (fun hc => ?_) (fun hc => ?_)
  · (try (simp only [decide_eq_true_eq, decide_eq_false_iff_not, Bool.not_eq_true', Bool.not_eq_false', Bool.and_eq_true, Bool.or_eq_true, Int.not_lt, Int.not_le] at hc)); (try (simp (disch := first | omega | (simp <;> omega) | fail) only [push_cast, ↓reduceIte, Nat.reduceEqDiff, Nat.reduceAdd, Nat.reduceMul, Nat.reduceSub, Nat.reduceLT, Int.reduceToNat]))
    have hi : i < (lI a).length := by omega
    (try (simp (disch := first | omega | (simp <;> omega) | fail) only [push_cast, ↓reduceIte, Nat.reduceEqDiff, Nat.reduceAdd, Nat.reduceMul, Nat.reduceSub, Nat.reduceLT, Int.reduceToNat]))
    first | refine goC_split (fun hc => ?_) (fun hc => ?_) | refine cnd_split (fun hc => ?_) (fun hc => ?_)
    · (try (simp only [decide_eq_true_eq, decide_eq_false_iff_not, Bool.not_eq_true', Bool.not_eq_false', Bool.and_eq_true, Bool.or_eq_true, Int.not_lt, Int.not_le] at hc)); (try (simp (disch := first | omega | (simp <;> omega) | fail) only [push_cast, ↓reduceIte, Nat.reduceEqDiff, Nat.reduceAdd, Nat.reduceMul, Nat.reduceSub, Nat.reduceLT, Int.reduceToNat]))
      congr 1
      symm
      rw [decide_eq_false_iff_not]
      intro he
      rw [he] at hc
      exact hc rfl
    · (try (simp only [decide_eq_true_eq, decide_eq_false_iff_not, Bool.not_eq_true', Bool.not_eq_false', Bool.and_eq_true, Bool.or_eq_true, Int.not_lt, Int.not_le] at hc)); (try (simp (disch := first | omega | (simp <;> omega) | fail) only [push_cast, ↓reduceIte, Nat.reduceEqDiff, Nat.reduceAdd, Nat.reduceMul, Nat.reduceSub, Nat.reduceLT, Int.reduceToNat]))
      have h1 : i < (lI b).length := by omega
      simp [hi, h1] at hc
      rw [List.take_add_one, List.take_add_one, he]
      simp [hi, h1, hc]
  · (try (simp only [decide_eq_true_eq, decide_eq_false_iff_not, Bool.not_eq_true', Bool.not_eq_false', Bool.and_eq_true, Bool.or_eq_true, Int.not_lt, Int.not_le] at hc)); (try (simp (disch := first | omega | (simp <;> omega) | fail) only [push_cast, ↓reduceIte, Nat.reduceEqDiff, Nat.reduceAdd, Nat.reduceMul, Nat.reduceSub, Nat.reduceLT, Int.reduceToNat]))
    have hi2 : i = (lI a).length := by omega
    congr 1
    symm
    rw [decide_eq_true_iff]
    rw [hi2, List.take_length] at he
    rw [he, hlen, List.take_length]

theorem c_laws_eqBits (b c : Bt) : Fn Tryd.prog 10 [eB b, eB c] (· = .bool (decide (b.size = c.size) && decide (lI b.words = lI c.words))) := by
  refine Fn.of free_bool fun h => ?_
  refine enter (by kernel_rfl) e10 (by kernel_rfl) rfl fun hok => ?_
  simp only [r10, initEnv_2]
  (try (simp (disch := first | omega | (simp <;> omega) | fail) only [push_cast, ↓reduceIte, Nat.reduceEqDiff, Nat.reduceAdd, Nat.reduceMul, Nat.reduceSub, Nat.reduceLT, Int.reduceToNat]))
  first | refine goC_split (fun hc => ?_) (fun hc => ?_) | refine cnd_split (fun hc => ?_) (fun hc => ?_)
  · (try (simp only [decide_eq_true_eq, decide_eq_false_iff_not, Bool.not_eq_true', Bool.not_eq_false', Bool.and_eq_true, Bool.or_eq_true, Int.not_lt, Int.not_le] at hc)); (try (simp (disch := first | omega | (simp <;> omega) | fail) only [push_cast, ↓reduceIte, Nat.reduceEqDiff, Nat.reduceAdd, Nat.reduceMul, Nat.reduceSub, Nat.reduceLT, Int.reduceToNat]))
  (try (simp only [decide_eq_true_eq, decide_eq_false_iff_not, Bool.not_eq_true', Bool.not_eq_false', Bool.and_eq_true, Bool.or_eq_true, Int.not_lt, Int.not_le] at hc)); (try (simp (disch := first | omega | (simp <;> omega) | fail) only [push_cast, ↓reduceIte, Nat.reduceEqDiff, Nat.reduceAdd, Nat.reduceMul, Nat.reduceSub, Nat.reduceLT, Int.reduceToNat]))
  refine (c_laws_eqIntS _ _).call ?_
  cases he : decide (lI b.words = lI c.words)
  · (try (simp (disch := first | omega | (simp <;> omega) | fail) only [push_cast, ↓reduceIte, Nat.reduceEqDiff, Nat.reduceAdd, Nat.reduceMul, Nat.reduceSub, Nat.reduceLT, Int.reduceToNat]))
    all_goals (try simp [hc])
  · (try (simp (disch := first | omega | (simp <;> omega) | fail) only [push_cast, ↓reduceIte, Nat.reduceEqDiff, Nat.reduceAdd, Nat.reduceMul, Nat.reduceSub, Nat.reduceLT, Int.reduceToNat]))
    all_goals (try simp [hc])

def marksI (k : Int) (n : Nat) : List Int := (List.range n).map fun i : Nat => k + (i : Int)
theorem marksI_len {k : Int} {n : Nat} : (marksI k n).length = n := by simp [marksI]
theorem marksI_get {k : Int} {n i : Nat} (hi : i < n) : (marksI k n).getD i 0 = k + (i : Int) := by simp [marksI, hi]
theorem marksI_succ {k : Int} {n : Nat} : marksI k (n + 1) = marksI k n ++ [k + (n : Int)] := by simp [marksI, List.range_succ]
def mkI (k : Int) (a : Option (List Int)) : Option (List Int) := a.map fun l => marksI k l.length
theorem lI_mkI {k : Int} {a : Option (List Int)} : lI (mkI k a) = marksI k (lI a).length := by cases a <;> rfl
theorem setL_next {α : Type} {f : α → AV} {m l : List α} {x : α} {i : Nat} (hm : m.length = i) (hi : i < l.length) : ((m ++ l.drop i).map f).set i (f x) = (m ++ [x] ++ l.drop (i + 1)).map f := by
  subst hm
  rw [List.drop_eq_getElem_cons hi]
  simp only [List.map_append, List.map_cons, List.map_nil, List.append_assoc, List.cons_append, List.nil_append]
  have := set_last (p := m.map f) (r := (l.drop (m.length + 1)).map f) (x := f l[m.length]) (y := f x)
  rw [List.length_map] at this
  exact this

theorem c_laws_markIntS (v : AV) (a : Option (List Int)) (G : Nat → Prop) (k : Int) (h : H) (hs : Ow h [v] [eI a] G) (hk : 0 ≤ k) (hk2 : k + (lI a).length ≤ 100000000) :
    Call Tryd.prog 39 [v, .int .i64 k] h G (fun x h' => x = .int .i64 (k + (lI a).length) ∧ Kp G h h' ∧ Ow h' [v] [eI (mkI k a)] G) := by
  cases a with
  | none =>
    have hv : v = .nils := hs.atomOf rfl
    subst hv
    refine enter (by kernel_rfl) e39 (by kernel_rfl) rfl fun hok => ?_
    simp only [r39, initEnv_2]
    (try (simp (disch := first | omega | (simp <;> omega) | fail) only [push_cast, ↓reduceIte, Nat.reduceEqDiff, Nat.reduceAdd, Nat.reduceMul, Nat.reduceSub, Nat.reduceLT, Int.reduceToNat]))
    refine T_for 0 (fun i e h' => Pins e [(0, .nils), (1, .int .i64 k), (5, .int .i64 0)] ∧ h' = h) ?_ ?_
    · (try (simp (disch := first | omega | (simp <;> omega) | fail) only [push_cast, ↓reduceIte, Nat.reduceEqDiff, Nat.reduceAdd, Nat.reduceMul, Nat.reduceSub, Nat.reduceLT, Int.reduceToNat]))
    rintro i e h' hi ⟨hp, rfl⟩
    refine T_pins hp fun e => ?_
    (try (simp (disch := first | omega | (simp <;> omega) | fail) only [push_cast, ↓reduceIte, Nat.reduceEqDiff, Nat.reduceAdd, Nat.reduceMul, Nat.reduceSub, Nat.reduceLT, Int.reduceToNat]))
    all_goals (try exact ⟨by simp [lI], Kp.refl, hs⟩)
  | some l =>
    obtain ⟨b, cs, F, rfl, hc, hcl, hb, hF, hin, hre⟩ := Ow.open_ (show Ow h [v] [.ro 1 (l.map (.int .i64)) l.length] G from hs)
    have hl0 : lI (some l) = l := rfl
    rw [hl0] at hk2 ⊢
    refine enter (by kernel_rfl) e39 (by kernel_rfl) rfl fun hok => ?_
    simp only [r39, initEnv_2]
    (try (simp (disch := first | omega | (simp <;> omega) | fail) only [push_cast, ↓reduceIte, Nat.reduceEqDiff, Nat.reduceAdd, Nat.reduceMul, Nat.reduceSub, Nat.reduceLT, Int.reduceToNat]))
    refine T_for l.length (fun i e h' => Pins e [(0, .sl b 0 1 l.length l.length), (1, .int .i64 (k + i)), (5, .int .i64 i)] ∧ Kp G h h' ∧ h'.cells b = some ((marksI k i ++ l.drop i).map (.int .i64))) ?_ ?_
    · have hcs : cs = l.map (.int .i64) := by
        refine List.ext_getElem? fun i => ?_
        by_cases hi : i < cs.length
        · have hi2 : i < (l.map (AV.int .i64)).length := by rw [hin.len]; exact hi
          obtain ⟨F2, _, h2, _⟩ := hin.focus (List.getElem?_eq_getElem hi) (List.getElem?_eq_getElem hi2)
          rw [List.getElem?_eq_getElem hi, List.getElem?_eq_getElem hi2]
          exact congrArg some (h2.atomOf (by simp [atom]))
        · rw [List.getElem?_eq_none (by omega), List.getElem?_eq_none (by rw [hin.len]; omega)]
      (try (simp (disch := first | omega | (simp <;> omega) | fail) only [push_cast, ↓reduceIte, Nat.reduceEqDiff, Nat.reduceAdd, Nat.reduceMul, Nat.reduceSub, Nat.reduceLT, Int.reduceToNat]))
      all_goals (try exact ⟨Kp.refl, by rw [hc, hcs]; simp [marksI]⟩)
      all_goals (try exact ⟨by simp, Kp.refl, by rw [hc, hcs]; simp [marksI]⟩)
    rintro i e h' hi ⟨hp, hkp, hc2⟩
    refine T_pins hp fun e => ?_
    have hpm : G b = True := by simp [hb]
    (try (simp (disch := first | omega | (simp <;> omega) | fail) only [push_cast, ↓reduceIte, Nat.reduceEqDiff, Nat.reduceAdd, Nat.reduceMul, Nat.reduceSub, Nat.reduceLT, Int.reduceToNat]))
    first | refine goC_split (fun hc => ?_) (fun hc => ?_) | refine cnd_split (fun hc => ?_) (fun hc => ?_)
    · (try (simp only [decide_eq_true_eq, decide_eq_false_iff_not, Bool.not_eq_true', Bool.not_eq_false', Bool.and_eq_true, Bool.or_eq_true, Int.not_lt, Int.not_le] at hc)); (try (simp (disch := first | omega | (simp <;> omega) | fail) only [push_cast, ↓reduceIte, Nat.reduceEqDiff, Nat.reduceAdd, Nat.reduceMul, Nat.reduceSub, Nat.reduceLT, Int.reduceToNat]))
      have hi2 : i < l.length := by omega
      have hset := setL_next (f := AV.int .i64) (m := marksI k i) (x := k + (i : Int)) marksI_len hi2
      rw [← marksI_succ] at hset
      have hln : ((marksI k i ++ l.drop i).map (AV.int .i64)).length = l.length := by
        simp [marksI_len]
        omega
      have hos : over ((marksI k i ++ l.drop i).map (AV.int .i64)) i [.int .i64 (k + (i : Int))] = (marksI k (i + 1) ++ l.drop (i + 1)).map (.int .i64) := by
        rw [over_set (by omega), hset]
      (try (simp (disch := first | omega | (simp <;> omega) | fail) only [push_cast, ↓reduceIte, Nat.reduceEqDiff, Nat.reduceAdd, Nat.reduceMul, Nat.reduceSub, Nat.reduceLT, Int.reduceToNat, hc2, hpm, hln, hos]))
      all_goals (try (refine ⟨by omega, ?_⟩))
      all_goals (try exact ⟨hkp.wr hb _, cells_wr2 (cells_lt hc2)⟩)
    · (try (simp only [decide_eq_true_eq, decide_eq_false_iff_not, Bool.not_eq_true', Bool.not_eq_false', Bool.and_eq_true, Bool.or_eq_true, Int.not_lt, Int.not_le] at hc)); (try (simp (disch := first | omega | (simp <;> omega) | fail) only [push_cast, ↓reduceIte, Nat.reduceEqDiff, Nat.reduceAdd, Nat.reduceMul, Nat.reduceSub, Nat.reduceLT, Int.reduceToNat]))
      have hie : i = l.length := by omega
      subst hie
      rw [List.drop_length, List.append_nil] at hc2
      have hfin : Ow h' [.sl b 0 1 l.length l.length] [eI (mkI k (some l))] G := by
        have := ow_map (h := h') (f := AV.int .i64) (G := G) (fun _ => rfl) hc2 (marksI_len) hb
        unfold mkI eI
        simpa [marksI_len] using this
      first | exact ⟨rfl, hkp, hfin⟩ | exact ⟨hkp, hfin⟩

def mkBt (k : Int) (b : Bt) : Bt := ⟨b.size, mkI k b.words⟩
theorem ow_bt {h : H} {x : AV} {b : Bt} {G : Nat → Prop} (ho : Ow h [x] [eB b] G) : ∃ w F, x = .agg [.int .i64 b.size, w] ∧ Ow h [w] [eI b.words] F ∧ (∀ c, F c → G c) ∧ one w = true ∧ cellsOf w = [w] ∧ ∀ h' ws, Ow h' [w] [eI ws] F → Ow h' [x] [eB ⟨b.size, ws⟩] G := by
  obtain ⟨cs, rfl, h1⟩ := Ow.openAgg (show Ow h [x] [.agg (cB b)] G from ho)
  have hl : cs.length = 2 := h1.len.symm
  match cs, hl, h1 with
  | [x1, x2], _, h1 =>
    obtain ⟨F, F', f1, f2, f3, f4⟩ := h1.uncons
    have e1 : x1 = .int .i64 b.size := f1.atomOf rfl
    subst e1
    refine ⟨x2, F', rfl, f2, fun c hc => (f4 c hc).1, ?_, ?_, fun h' ws hw => ?_⟩
    · cases hw : b.words with
      | none => rw [hw] at f2; have : x2 = .nils := f2.atomOf rfl; rw [this]; rfl
      | some ws => rw [hw] at f2; obtain ⟨bb, e2⟩ := Ow.sl1 (show Ow h [x2] [.ro 1 _ _] F' from f2); rw [e2]; rfl
    · cases hw : b.words with
      | none => rw [hw] at f2; have : x2 = .nils := f2.atomOf rfl; rw [this]; rfl
      | some ws => rw [hw] at f2; obtain ⟨bb, e2⟩ := Ow.sl1 (show Ow h [x2] [.ro 1 _ _] F' from f2); rw [e2]; rfl
    · exact (Ow.atom rfl (hw.mono fun c hc => (f4 c hc).1)).aggOf
theorem c_laws_markBits (v : AV) (b : Bt) (G : Nat → Prop) (k : Int) (h : H) (hs : Ow h [v] [eB b] G) (hG : ∀ c, G c → c < h.length) (hk : 0 ≤ k) (hk2 : k + (lI b.words).length ≤ 100000000) :
    Call Tryd.prog 11 [v, .int .i64 k] h G (fun x h' => x = .int .i64 (k + (lI b.words).length) ∧ Kq G h h' ∧ Ow h' [v] [eB (mkBt k b)] G) := by
  obtain ⟨w, F, rfl, f1, f2, f3, f4, f5⟩ := ow_bt hs
  refine enter (by kernel_rfl) e11 (by kernel_rfl) rfl fun hok => ?_
  simp only [r11, initEnv_2]
  (try (simp (disch := first | omega | (simp <;> omega) | fail) only [push_cast, ↓reduceIte, Nat.reduceEqDiff, Nat.reduceAdd, Nat.reduceMul, Nat.reduceSub, Nat.reduceLT, Int.reduceToNat, f3, f4]))
  refine (c_laws_markIntS w b.words F k _ (f1.frame fun c hc => List.getElem?_append_left (hG c (f2 c hc))) hk hk2).mono (fun x h2 hx => ?_) (fun c hc hF => Or.inl (f2 c hF))
  obtain ⟨rfl, hkp, ho⟩ := hx
  have h1 := hkp.1
  have hkq : Kq G h h2 := ⟨by simp at h1; omega, fun c hc hn => (hkp.2 c fun hf => hn (f2 c hf)).trans (List.getElem?_append_left hc)⟩
  (try (simp (disch := first | omega | (simp <;> omega) | fail) only [push_cast, ↓reduceIte, Nat.reduceEqDiff, Nat.reduceAdd, Nat.reduceMul, Nat.reduceSub, Nat.reduceLT, Int.reduceToNat]))
  exact ⟨hkq, f5 h2 _ ho⟩

theorem c_laws_heldIntS (a : Option (List Int)) (k : Int) (n : Nat) (ha : lI a = marksI k n) (hk : 0 ≤ k) (hk2 : k + n ≤ 100000000) : Fn Tryd.prog 40 [eI a, .int .i64 k] (· = .int .i64 (k + n)) := by
  refine Fn.of free_int fun h => ?_
  refine enter (by kernel_rfl) e40 (by kernel_rfl) rfl fun hok => ?_
  simp only [r40, initEnv_2]
  have hln : (lI a).length = n := by rw [ha, marksI_len]
  (try (simp (disch := first | omega | (simp <;> omega) | fail) only [push_cast, ↓reduceIte, Nat.reduceEqDiff, Nat.reduceAdd, Nat.reduceMul, Nat.reduceSub, Nat.reduceLT, Int.reduceToNat]))
  refine T_for n (fun i e h' => Pins e [(0, eI a), (1, .int .i64 (k + i)), (5, .int .i64 i)] ∧ h' = h) ?_ ?_
  · (try (simp (disch := first | omega | (simp <;> omega) | fail) only [push_cast, ↓reduceIte, Nat.reduceEqDiff, Nat.reduceAdd, Nat.reduceMul, Nat.reduceSub, Nat.reduceLT, Int.reduceToNat]))
    all_goals (try simp)
  rintro i e h' hi ⟨hp, rfl⟩
  refine T_pins hp fun e => ?_
  (try (simp (disch := first | omega | (simp <;> omega) | fail) only [push_cast, ↓reduceIte, Nat.reduceEqDiff, Nat.reduceAdd, Nat.reduceMul, Nat.reduceSub, Nat.reduceLT, Int.reduceToNat, hln]))
  first | refine goC_split (fun hc => ?_) (fun hc => ?_) | refine cnd_split (fun hc => ?_) (fun hc => ?_)
  · (try (simp only [decide_eq_true_eq, decide_eq_false_iff_not, Bool.not_eq_true', Bool.not_eq_false', Bool.and_eq_true, Bool.or_eq_true, Int.not_lt, Int.not_le] at hc)); (try (simp (disch := first | omega | (simp <;> omega) | fail) only [push_cast, ↓reduceIte, Nat.reduceEqDiff, Nat.reduceAdd, Nat.reduceMul, Nat.reduceSub, Nat.reduceLT, Int.reduceToNat]))
    have hi2 : i < (lI a).length := by omega
    have hg : (lI a).getD i 0 = k + (i : Int) := by rw [ha, marksI_get (by omega)]
    (try (simp (disch := first | omega | (simp <;> omega) | fail) only [push_cast, ↓reduceIte, Nat.reduceEqDiff, Nat.reduceAdd, Nat.reduceMul, Nat.reduceSub, Nat.reduceLT, Int.reduceToNat, hln, hg]))
    all_goals (try omega)
  · (try (simp only [decide_eq_true_eq, decide_eq_false_iff_not, Bool.not_eq_true', Bool.not_eq_false', Bool.and_eq_true, Bool.or_eq_true, Int.not_lt, Int.not_le] at hc)); (try (simp (disch := first | omega | (simp <;> omega) | fail) only [push_cast, ↓reduceIte, Nat.reduceEqDiff, Nat.reduceAdd, Nat.reduceMul, Nat.reduceSub, Nat.reduceLT, Int.reduceToNat]))

theorem c_laws_heldBits (b : Bt) (k : Int) (hk : 0 ≤ k) (hk2 : k + (lI b.words).length ≤ 100000000) : Fn Tryd.prog 12 [eB (mkBt k b), .int .i64 k] (· = .int .i64 (k + (lI b.words).length)) := by
  refine Fn.of free_int fun h => ?_
  refine enter (by kernel_rfl) e12 (by kernel_rfl) rfl fun hok => ?_
  simp only [r12, initEnv_2]
  have hw : lI (mkBt k b).words = marksI k (lI b.words).length := lI_mkI
  (try (simp (disch := first | omega | (simp <;> omega) | fail) only [push_cast, ↓reduceIte, Nat.reduceEqDiff, Nat.reduceAdd, Nat.reduceMul, Nat.reduceSub, Nat.reduceLT, Int.reduceToNat]))
  refine (c_laws_heldIntS (mkBt k b).words k (lI b.words).length hw hk hk2).call ?_
  (try (simp (disch := first | omega | (simp <;> omega) | fail) only [push_cast, ↓reduceIte, Nat.reduceEqDiff, Nat.reduceAdd, Nat.reduceMul, Nat.reduceSub, Nat.reduceLT, Int.reduceToNat]))

theorem c_laws_big (a b : Option (List UInt8)) (ha : (lU a).length ≤ 9223372036854775807) : Fn Tryd.prog 13 [eU a, eU b] (· = .bool (decide (1048576 < ((lU a).length : Int)) || decide (1048576 - ((lU a).length : Int) < ((lU b).length : Int)))) := by
  refine Fn.of free_bool fun h => ?_
  refine enter (by kernel_rfl) e13 (by kernel_rfl) rfl fun hok => ?_
  simp only [r13, initEnv_2]
  by_cases h1 : 1048576 < ((lU a).length : Int)
  · (try (simp (disch := first | omega | (simp <;> omega) | fail) only [push_cast, ↓reduceIte, Nat.reduceEqDiff, Nat.reduceAdd, Nat.reduceMul, Nat.reduceSub, Nat.reduceLT, Int.reduceToNat, h1]))
    all_goals (try simp [h1])
  · (try (simp (disch := first | omega | (simp <;> omega) | fail) only [push_cast, ↓reduceIte, Nat.reduceEqDiff, Nat.reduceAdd, Nat.reduceMul, Nat.reduceSub, Nat.reduceLT, Int.reduceToNat, h1]))
    (first | refine goC_split (fun hc => ?_) (fun hc => ?_) | refine cnd_split (fun hc => ?_) (fun hc => ?_)) <;> ((try (simp (disch := first | omega | (simp <;> omega) | fail) only [push_cast, ↓reduceIte, Nat.reduceEqDiff, Nat.reduceAdd, Nat.reduceMul, Nat.reduceSub, Nat.reduceLT, Int.reduceToNat]))) <;> (try rw [hc])

def hk (seed part : Int) (s : Str) : Int := s.foldl (fun h c => (263 * h + (c.toNat : Int)) % 65521) ((31 * seed + 977 * part + 7) % 65521)
theorem hk_bd (seed part : Int) : ∀ s : Str, 0 ≤ hk seed part s ∧ hk seed part s < 65521 := by
  intro s
  have key : ∀ (s : Str) (h : Int), 0 ≤ h ∧ h < 65521 → 0 ≤ s.foldl (fun h c => (263 * h + (c.toNat : Int)) % 65521) h ∧ s.foldl (fun h c => (263 * h + (c.toNat : Int)) % 65521) h < 65521 := by
    intro s
    induction s with
    | nil => exact fun h hh => hh
    | cons c s ih =>
      intro h hh
      rw [List.foldl_cons]
      refine ih _ ?_
      show 0 ≤ (263 * h + (c.toNat : Int)) % 65521 ∧ (263 * h + (c.toNat : Int)) % 65521 < 65521
      omega
  exact key s _ ⟨by omega, by omega⟩
theorem hk_take {seed part : Int} {s : Str} {i : Nat} (hi : i < s.length) : hk seed part (s.take (i + 1)) = (263 * hk seed part (s.take i) + ((s.getD i 0).toNat : Int)) % 65521 := by
  unfold hk
  rw [List.take_add_one, List.foldl_append]
  simp [hi]
/-- The hash. -/
def hashV (seed part : Int) (s : Str) : Int := hk seed part s ^ 11 % 65521
theorem hashV_bd (seed part : Int) (s : Str) : 0 ≤ hashV seed part s ∧ hashV seed part s < 65521 := by
  unfold hashV
  exact ⟨by omega, by omega⟩
def placeV (seed part : Int) (s : Str) (n : Int) : Int := hashV seed part s * n / 65521
theorem pow_step (h : Int) (i : Nat) : h ^ i % 65521 * h % 65521 = h ^ (i + 1) % 65521 := by
  rw [Int.pow_succ, Int.mul_emod (h ^ i % 65521) h, Int.emod_emod_of_dvd _ (Int.dvd_refl _), ← Int.mul_emod]
theorem pow_join (h : Int) (i j : Nat) : (h ^ i % 65521) * (h ^ j % 65521) % 65521 = h ^ (i + j) % 65521 := by
  rw [← Int.mul_emod, Int.pow_add]

--eng lenA_ePS iaddr_ePS eP ld_P get_P0 get_P1 get_P2 cellsOf_ePS one_ePS cP
structure Pd where
  seed : Int
  seg : Int
  marks : Option (List Int)
  deriving Inhabited
def cP (p : Pd) : List AV := [.int .i64 p.seed, .int .i64 p.seg, eI p.marks]
theorem cP_len (p : Pd) : (cP p).length = 3 := rfl
def eP (p : Pd) : AV := .agg (cP p)
def ePS : Option (List Pd) → AV
  | none => .nils
  | some l => .ro 3 (l.flatMap cP) l.length
def lP : Option (List Pd) → List Pd
  | none => []
  | some l => l
theorem lenA_ePS {l : Option (List Pd)} : lenA (ePS l) = some (.int .i64 (lP l).length) := by cases l <;> rfl
theorem iaddr_ePS {l : Option (List Pd)} {k : IntKind} {n : Int} (h1 : 0 ≤ n) (h2 : n < (lP l).length) : iaddrA 3 (ePS l) (.int k n) = some (.rad ((lP l).flatMap cP) (n.toNat * 3)) := by
  cases l with
  | none => simp [lP] at h2; omega
  | some l => exact iaddrA_ro h1 h2
theorem ld_P {l : List Pd} {i : Nat} (hi : i < l.length) : ld true 3 (l.flatMap cP) (i * 3) = some (.agg (cP (l.getD i default))) := ld_row cP_len default hi
theorem get_P0 {l : List Pd} {i : Nat} (hi : i < l.length) : (l.flatMap cP)[i * 3]? = some (.int .i64 (l.getD i default).seed) := flatMap_get cP_len default (k := 0) hi (by omega)
theorem get_P1 {l : List Pd} {i : Nat} (hi : i < l.length) : (l.flatMap cP)[i * 3 + 1]? = some (.int .i64 (l.getD i default).seg) := flatMap_get cP_len default (k := 1) hi (by omega)
theorem get_P2 {l : List Pd} {i : Nat} (hi : i < l.length) : (l.flatMap cP)[i * 3 + 2]? = some (eI (l.getD i default).marks) := flatMap_get cP_len default (k := 2) hi (by omega)
theorem one_ePS {l : Option (List Pd)} : one (ePS l) = true := by cases l <;> rfl
theorem cellsOf_ePS {l : Option (List Pd)} : cellsOf (ePS l) = [ePS l] := by cases l <;> rfl
theorem free_cP {p : Pd} : ∀ c ∈ cP p, Free c := free_cons_ free_int (free_cons_ free_int (free_cons_ free_eI free_nil_))
theorem free_eP {p : Pd} : Free (eP p) := free_agg free_cP
theorem free_ePS {l : Option (List Pd)} : Free (ePS l) := by
  cases l with
  | none => exact free_nils
  | some l => exact free_ro (fun c hc => by obtain ⟨p, _, hp⟩ := List.mem_flatMap.1 hc; exact free_cP c hp)
theorem ok_ePS {l : Option (List Pd)} (h : OkV (ePS l)) : (lP l).length ≤ 9223372036854775807 := by
  cases l with
  | none => simp [lP]
  | some l => exact h.ro.1
def wPS (a : Option (List Pd)) : Nat := (lP a).length + ((lP a).map fun p => (lI p.marks).length).sum
/-- A copy of it. -/
def cpP (p : Pd) : Pd := ⟨p.seed, p.seg, some (lI p.marks)⟩
def cPc (p : Pd) : List AV := cP (cpP p)
theorem cPc_len (p : Pd) : (cPc p).length = 3 := rfl

attribute [push_cast] lenA_ePS iaddr_ePS eP ld_P get_P0 get_P1 get_P2 cellsOf_ePS one_ePS cP
def rank (l : List Int) (n : Nat) : Nat := (l.take n).countP (fun m => decide (m ≠ 3))
theorem rank_0 {l : List Int} : rank l 0 = 0 := by simp [rank]
theorem rank_le {l : List Int} {n : Nat} : rank l n ≤ n := by
  unfold rank
  have := List.countP_le_length (p := fun m : Int => decide (m ≠ 3)) (l := l.take n)
  have h2 : (l.take n).length ≤ n := by simp; omega
  omega
theorem rank_succ {l : List Int} {n : Nat} (hn : n < l.length) : rank l (n + 1) = rank l n + (if l.getD n 0 = 3 then 0 else 1) := by
  unfold rank
  rw [List.take_add_one, List.countP_append]
  congr 1
  by_cases h : l.getD n 0 = 3
  · have h' : l[n] = 3 := by simpa [hn] using h
    simp [hn, h']
  · have h' : l[n] ≠ 3 := by simpa [hn] using h
    simp [hn, h']
def okMarks (l : List Int) : Bool := l.all fun m => decide (0 ≤ m) && decide (m ≤ 3)
def okPd (p : Pd) : Bool := (decide (0 ≤ p.seed) && decide (p.seed ≤ 9999)) && ((decide (1 ≤ p.seg) && decide (p.seg ≤ 24)) && (decide (((lI p.marks).length : Int) = 3 * p.seg) && okMarks (lI p.marks)))

def sameP (p q : Pd) : Bool := decide (p.seed = q.seed) && (decide (p.seg = q.seg) && decide (lI p.marks = lI q.marks))
theorem sameP_cp (p : Pd) : sameP (cpP p) (cpP p) = true := by simp [sameP]
/-- The first so many are the same. -/
def sameFrom (l m : List Pd) : Nat → Bool
  | 0 => true
  | i + 1 => sameFrom l m i && sameP (l.getD i default) (m.getD i default)
theorem sameFrom_false {l m : List Pd} {i : Nat} : ∀ {j}, i ≤ j → sameFrom l m i = false → sameFrom l m j = false
  | 0, h, hf => by
    rw [show i = 0 by omega] at hf
    exact hf
  | j + 1, h, hf => by
    by_cases hi : i = j + 1
    · rw [← hi]
      exact hf
    · simp [sameFrom, sameFrom_false (show i ≤ j by omega) hf]
def samePS (l m : List Pd) : Bool := decide ((l.length : Int) = m.length) && sameFrom l m l.length
theorem samePS_cp (l : List Pd) : samePS (l.map cpP) (l.map cpP) = true := by
  have : ∀ n, sameFrom (l.map cpP) (l.map cpP) n = true := by
    intro n
    induction n with
    | zero => rfl
    | succ n ih => simp [sameFrom, ih, sameP]
  simp [samePS, this]

--eng eSh
structure Sh_ where
  seed : Int
  parts : Option (List Pd)
  offs : Option (List Int)
def eSh (s : Sh_) : AV := .agg [.int .i64 s.seed, ePS s.parts, eI s.offs]
def cpSh (s : Sh_) : Sh_ := ⟨s.seed, some ((lP s.parts).map cpP), some (lI s.offs)⟩
theorem free_eSh {s : Sh_} : Free (eSh s) := free_agg (free_cons_ free_int (free_cons_ free_ePS (free_cons_ free_eI free_nil_)))
def wSh (s : Sh_) : Nat := wPS s.parts + (lI s.offs).length

attribute [push_cast] eSh
def usedP (p : Pd) : Nat := rank (lI p.marks) (lI p.marks).length
def offAt (l : List Pd) (i : Nat) : Nat := ((l.take i).map usedP).sum
theorem offAt_0 {l : List Pd} : offAt l 0 = 0 := by simp [offAt]
theorem offAt_succ {l : List Pd} {i : Nat} (hi : i < l.length) : offAt l (i + 1) = offAt l i + usedP (l.getD i default) := by
  unfold offAt
  rw [List.take_add_one, List.map_append, List.sum_append]
  simp [hi]
theorem offAt_le {l : List Pd} {w : Nat} (hw : ∀ i, i < l.length → (lI (l.getD i default).marks).length ≤ w) : ∀ i, i ≤ l.length → offAt l i ≤ i * w
  | 0, _ => by simp [offAt_0]
  | i + 1, hi => by
    rw [offAt_succ (by omega), Nat.succ_mul]
    have h1 := offAt_le hw i (by omega)
    have h2 := hw i (by omega)
    have h3 : usedP (l.getD i default) ≤ _ := rank_le
    omega
theorem offAt_ok {l : List Pd} : ∀ i, i ≤ l.length → (l.take i).all okPd = true → offAt l i ≤ i * 72
  | 0, _, _ => by simp [offAt_0]
  | i + 1, hi, h => by
    rw [List.take_add_one, List.all_append, Bool.and_eq_true] at h
    have h0 : i < l.length := by omega
    have h1 := offAt_ok i (by omega) h.1
    have h2 : okPd (l.getD i default) = true := by
      have := h.2
      simp [h0] at this
      simpa [h0] using this
    simp only [okPd, Bool.and_eq_true, decide_eq_true_eq] at h2
    rw [offAt_succ h0]
    have h3 : usedP (l.getD i default) ≤ _ := rank_le
    omega
def offsL (l : List Pd) (i : Nat) : List Int := (List.range i).map fun j => (offAt l j : Int)
theorem offsL_len {l : List Pd} {i : Nat} : (offsL l i).length = i := by simp [offsL]
theorem offsL_succ {l : List Pd} {i : Nat} : offsL l (i + 1) = offsL l i ++ [(offAt l i : Int)] := by simp [offsL, List.range_succ]
def okSh (s : Sh_) : Bool := (decide (0 ≤ s.seed) && decide (s.seed ≤ 9999)) && ((decide (1 ≤ ((lP s.parts).length : Int)) && decide (((lP s.parts).length : Int) ≤ 8)) && ((lP s.parts).all okPd && decide (lI s.offs = offsL (lP s.parts) (lP s.parts).length)))
theorem okPd_len {p : Pd} (h : okPd p = true) : (lI p.marks).length ≤ 72 := by
  simp only [okPd, Bool.and_eq_true, decide_eq_true_eq] at h
  omega

theorem placeV_bd {seed part : Int} {s : Str} {n : Int} (hn : 0 < n) : 0 ≤ placeV seed part s n ∧ placeV seed part s n < n := by
  obtain ⟨h1, h2⟩ := hashV_bd seed part s
  unfold placeV
  have h3 : 0 ≤ hashV seed part s * n := Int.mul_nonneg h1 (by omega)
  have h4 : hashV seed part s * n < 65521 * n := Int.mul_lt_mul_of_pos_right h2 hn
  constructor
  · omega
  · omega
/-- The places of a key. -/
def tri (seed : Int) (key : Str) (seg : Int) (n : Nat) : List Int := (List.range n).map fun j : Nat => placeV seed (j : Int) key seg + (j : Int) * seg
theorem tri_succ {seed : Int} {key : Str} {seg : Int} {n : Nat} : tri seed key seg (n + 1) = tri seed key seg n ++ [placeV seed (n : Int) key seg + (n : Int) * seg] := by simp [tri, List.range_succ]
theorem tri_len {seed : Int} {key : Str} {seg : Int} {n : Nat} : (tri seed key seg n).length = n := by simp [tri]
theorem tri_get {seed : Int} {key : Str} {seg : Int} {n i : Nat} (hi : i < n) : (tri seed key seg n).getD i 0 = placeV seed (i : Int) key seg + (i : Int) * seg := by simp [tri, hi]
theorem tri_bd {seed : Int} {key : Str} {seg : Int} {i : Nat} (hs : 0 < seg) (hi : i < 3) : 0 ≤ (tri seed key seg 3).getD i 0 ∧ (tri seed key seg 3).getD i 0 < 3 * seg := by
  rw [tri_get hi]
  have := placeV_bd (seed := seed) (part := (i : Int)) (s := key) hs
  have h3 : i = 0 ∨ i = 1 ∨ i = 2 := by omega
  rcases h3 with rfl | rfl | rfl <;> omega
def sumAt (m : List Int) (l : List Int) : Int := (l.map fun p => m.getD p.toNat 0).sum
theorem sumAt_take {m l : List Int} {i : Nat} (hi : i < l.length) : sumAt m (l.take (i + 1)) = sumAt m (l.take i) + m.getD (l.getD i 0).toNat 0 := by
  unfold sumAt
  rw [List.take_add_one, List.map_append, List.sum_append]
  simp [hi]
theorem okMarks_get {m : List Int} (h : okMarks m = true) (i : Nat) : 0 ≤ m.getD i 0 ∧ m.getD i 0 ≤ 3 := by
  by_cases hi : i < m.length
  · have := List.all_eq_true.1 h (m.getD i 0) (by simp [hi])
    simp only [Bool.and_eq_true, decide_eq_true_eq] at this
    exact this
  · simp [hi]
theorem sumAt_bd {m : List Int} (h : okMarks m = true) : ∀ l : List Int, 0 ≤ sumAt m l ∧ sumAt m l ≤ 3 * l.length
  | [] => by simp [sumAt]
  | p :: l => by
    have h1 := sumAt_bd h l
    have h2 := okMarks_get h p.toNat
    have h3 : sumAt m (p :: l) = m.getD p.toNat 0 + sumAt m l := by simp [sumAt]
    rw [h3]
    simp only [List.length_cons]
    omega
/-- The place to which a key is led. -/
def leadV (p : Pd) (key : Str) : Int := (tri p.seed key p.seg 3).getD (sumAt (lI p.marks) (tri p.seed key p.seg 3) % 3).toNat 0
structure OkP (p : Pd) : Prop where
  s0 : 0 ≤ p.seed
  s1 : p.seed ≤ 9999
  g0 : 1 ≤ p.seg
  g1 : p.seg ≤ 24
  ml : ((lI p.marks).length : Int) = 3 * p.seg
  mo : okMarks (lI p.marks) = true
theorem okP_of {p : Pd} (h : okPd p = true) : OkP p := by
  simp only [okPd, Bool.and_eq_true, decide_eq_true_eq] at h
  exact ⟨h.1.1, h.1.2, h.2.1.1, h.2.1.2, h.2.2.1, h.2.2.2⟩
theorem leadV_bd {p : Pd} (h : OkP p) (key : Str) : 0 ≤ leadV p key ∧ leadV p key < (lI p.marks).length := by
  have hs := sumAt_bd h.mo (tri p.seed key p.seg 3)
  have := tri_bd (seed := p.seed) (key := key) (seg := p.seg) (i := (sumAt (lI p.marks) (tri p.seed key p.seg 3) % 3).toNat) (by have := h.g0; omega) (by omega)
  have := h.ml
  unfold leadV
  omega

theorem c_laws_pSameInts (a b : Option (List Int)) : Fn Tryd.prog 47 [eI a, eI b] (· = .bool (decide (lI a = lI b))) := by
  refine Fn.of free_bool fun h => ?_
  refine enter (by kernel_rfl) e47 (by kernel_rfl) rfl fun hok => ?_
  simp only [r47, initEnv_2]
  have ha := ok_eI (okV_0 hok)
  have hb := ok_eI (okV_1 hok)
  (try (simp (disch := first | omega | (simp <;> omega) | fail) only [push_cast, ↓reduceIte, Nat.reduceEqDiff, Nat.reduceAdd, Nat.reduceMul, Nat.reduceSub, Nat.reduceLT, Int.reduceToNat]))
  first | refine goC_split (fun hc => ?_) (fun hc => ?_) | refine cnd_split (fun hc => ?_) (fun hc => ?_)
  · (try (simp only [decide_eq_true_eq, decide_eq_false_iff_not, Bool.not_eq_true', Bool.not_eq_false', Bool.and_eq_true, Bool.or_eq_true, Int.not_lt, Int.not_le] at hc)); (try (simp (disch := first | omega | (simp <;> omega) | fail) only [push_cast, ↓reduceIte, Nat.reduceEqDiff, Nat.reduceAdd, Nat.reduceMul, Nat.reduceSub, Nat.reduceLT, Int.reduceToNat]))
    have : lI a ≠ lI b := fun h => hc (by rw [h])
    rw [decide_eq_false this]
  (try (simp only [decide_eq_true_eq, decide_eq_false_iff_not, Bool.not_eq_true', Bool.not_eq_false', Bool.and_eq_true, Bool.or_eq_true, Int.not_lt, Int.not_le] at hc)); (try (simp (disch := first | omega | (simp <;> omega) | fail) only [push_cast, ↓reduceIte, Nat.reduceEqDiff, Nat.reduceAdd, Nat.reduceMul, Nat.reduceSub, Nat.reduceLT, Int.reduceToNat]))
  have hll : (lI a).length = (lI b).length := by omega
  refine T_for (lI a).length (fun i e h' => Pins e [(0, eI a), (1, eI b), (12, .int .i64 (lI a).length), (13, .int .i64 i)] ∧ h' = h ∧ (lI a).take i = (lI b).take i) ?_ ?_
  · (try (simp (disch := first | omega | (simp <;> omega) | fail) only [push_cast, ↓reduceIte, Nat.reduceEqDiff, Nat.reduceAdd, Nat.reduceMul, Nat.reduceSub, Nat.reduceLT, Int.reduceToNat]))
    all_goals (try simp)
  rintro i e h' hi ⟨hp, rfl, ht⟩
  refine T_pins hp fun e => ?_
  (try (simp (disch := first | omega | (simp <;> omega) | fail) only [push_cast, ↓reduceIte, Nat.reduceEqDiff, Nat.reduceAdd, Nat.reduceMul, Nat.reduceSub, Nat.reduceLT, Int.reduceToNat]))
  first | refine goC_split (fun hd => ?_) (fun hd => ?_) | refine cnd_split (fun hd => ?_) (fun hd => ?_)
  · (try (simp only [decide_eq_true_eq, decide_eq_false_iff_not, Bool.not_eq_true', Bool.not_eq_false', Bool.and_eq_true, Bool.or_eq_true, Int.not_lt, Int.not_le] at hd)); (try (simp (disch := first | omega | (simp <;> omega) | fail) only [push_cast, ↓reduceIte, Nat.reduceEqDiff, Nat.reduceAdd, Nat.reduceMul, Nat.reduceSub, Nat.reduceLT, Int.reduceToNat]))
    have hi2 : i < (lI a).length := by omega
    have hi3 : i < (lI b).length := by omega
    have ha1 : (lI a).take (i + 1) = (lI a).take i ++ [(lI a).getD i 0] := by
      rw [List.take_add_one]
      simp [hi2]
    have hb1 : (lI b).take (i + 1) = (lI b).take i ++ [(lI b).getD i 0] := by
      rw [List.take_add_one]
      simp [hi3]
    (try (simp (disch := first | omega | (simp <;> omega) | fail) only [push_cast, ↓reduceIte, Nat.reduceEqDiff, Nat.reduceAdd, Nat.reduceMul, Nat.reduceSub, Nat.reduceLT, Int.reduceToNat]))
    first | refine goC_split (fun he => ?_) (fun he => ?_) | refine cnd_split (fun he => ?_) (fun he => ?_)
    · (try (simp only [decide_eq_true_eq, decide_eq_false_iff_not, Bool.not_eq_true', Bool.not_eq_false', Bool.and_eq_true, Bool.or_eq_true, Int.not_lt, Int.not_le] at he)); (try (simp (disch := first | omega | (simp <;> omega) | fail) only [push_cast, ↓reduceIte, Nat.reduceEqDiff, Nat.reduceAdd, Nat.reduceMul, Nat.reduceSub, Nat.reduceLT, Int.reduceToNat]))
      have : lI a ≠ lI b := fun h => he (by rw [h])
      rw [decide_eq_false this]
    · (try (simp only [decide_eq_true_eq, decide_eq_false_iff_not, Bool.not_eq_true', Bool.not_eq_false', Bool.and_eq_true, Bool.or_eq_true, Int.not_lt, Int.not_le] at he)); (try (simp (disch := first | omega | (simp <;> omega) | fail) only [push_cast, ↓reduceIte, Nat.reduceEqDiff, Nat.reduceAdd, Nat.reduceMul, Nat.reduceSub, Nat.reduceLT, Int.reduceToNat]))
      rw [ha1, hb1, ht, he]
      (try (simp (disch := first | omega | (simp <;> omega) | fail) only [push_cast, ↓reduceIte, Nat.reduceEqDiff, Nat.reduceAdd, Nat.reduceMul, Nat.reduceSub, Nat.reduceLT, Int.reduceToNat]))
  · (try (simp only [decide_eq_true_eq, decide_eq_false_iff_not, Bool.not_eq_true', Bool.not_eq_false', Bool.and_eq_true, Bool.or_eq_true, Int.not_lt, Int.not_le] at hd)); (try (simp (disch := first | omega | (simp <;> omega) | fail) only [push_cast, ↓reduceIte, Nat.reduceEqDiff, Nat.reduceAdd, Nat.reduceMul, Nat.reduceSub, Nat.reduceLT, Int.reduceToNat]))
    have : lI a = lI b := by
      rw [List.take_of_length_le (by omega), List.take_of_length_le (by omega)] at ht
      exact ht
    rw [decide_eq_true this]

theorem c_laws_pSameBits (b c : Bt) : Fn Tryd.prog 17 [eB b, eB c] (· = .bool (decide (b.size = c.size) && decide (lI b.words = lI c.words))) := by
  refine Fn.of free_bool fun h => ?_
  refine enter (by kernel_rfl) e17 (by kernel_rfl) rfl fun hok => ?_
  simp only [r17, initEnv_2]
  (try (simp (disch := first | omega | (simp <;> omega) | fail) only [push_cast, ↓reduceIte, Nat.reduceEqDiff, Nat.reduceAdd, Nat.reduceMul, Nat.reduceSub, Nat.reduceLT, Int.reduceToNat]))
  cases hs : decide (b.size = c.size)
  · (try (simp (disch := first | omega | (simp <;> omega) | fail) only [push_cast, ↓reduceIte, Nat.reduceEqDiff, Nat.reduceAdd, Nat.reduceMul, Nat.reduceSub, Nat.reduceLT, Int.reduceToNat]))
  (try (simp (disch := first | omega | (simp <;> omega) | fail) only [push_cast, ↓reduceIte, Nat.reduceEqDiff, Nat.reduceAdd, Nat.reduceMul, Nat.reduceSub, Nat.reduceLT, Int.reduceToNat]))
  refine (c_laws_pSameInts _ _).call ?_
  (try (simp (disch := first | omega | (simp <;> omega) | fail) only [push_cast, ↓reduceIte, Nat.reduceEqDiff, Nat.reduceAdd, Nat.reduceMul, Nat.reduceSub, Nat.reduceLT, Int.reduceToNat]))

theorem c_spec_biAt (b : Bt) (B m i : Nat) (hw : lI b.words = wordsN B m) (hi : i < 16 * m) (hm : m ≤ 1000000) : Fn Tryd.prog 81 [eB b, .int .i64 i] (· = .bool (B.testBit i)) := by
  refine Fn.of free_bool fun h => ?_
  refine enter (by kernel_rfl) e81 (by kernel_rfl) rfl fun hok => ?_
  simp only [r81, initEnv_2]
  have hln : (lI b.words).length = m := by rw [hw, wordsN_len]
  have hat := at_word hw hi
  (try (simp (disch := first | omega | (simp <;> omega) | fail) only [push_cast, ↓reduceIte, Nat.reduceEqDiff, Nat.reduceAdd, Nat.reduceMul, Nat.reduceSub, Nat.reduceLT, Int.reduceToNat]))
  rw [← hat]
  (first | refine goC_split (fun hc => ?_) (fun hc => ?_) | refine cnd_split (fun hc => ?_) (fun hc => ?_)) <;> ((try (simp (disch := first | omega | (simp <;> omega) | fail) only [push_cast, ↓reduceIte, Nat.reduceEqDiff, Nat.reduceAdd, Nat.reduceMul, Nat.reduceSub, Nat.reduceLT, Int.reduceToNat]))) <;> (try rw [hc])

theorem c_spec_biText (b : Bt) (hk : okBt b = true) : Fn Tryd.prog 46 [eB b] (· = .str (btText b)) := by
  refine Fn.of free_str fun h => ?_
  refine enter (by kernel_rfl) e46 (by kernel_rfl) rfl fun hok => ?_
  simp only [r46, initEnv_1]
  obtain ⟨hw, k0, k1, k2⟩ := okBt_num hk
  unfold btText
  by_cases hz : b.size = 0
  · (try (simp (disch := first | omega | (simp <;> omega) | fail) only [push_cast, ↓reduceIte, Nat.reduceEqDiff, Nat.reduceAdd, Nat.reduceMul, Nat.reduceSub, Nat.reduceLT, Int.reduceToNat, hz]))
  · rw [if_neg hz]
    obtain ⟨n, hn⟩ : ∃ n : Nat, b.size = (n : Int) := ⟨b.size.toNat, by omega⟩
    (try (simp (disch := first | omega | (simp <;> omega) | fail) only [push_cast, ↓reduceIte, Nat.reduceEqDiff, Nat.reduceAdd, Nat.reduceMul, Nat.reduceSub, Nat.reduceLT, Int.reduceToNat, hz]))
    refine T_for n (fun i e h' => ∃ v, Pins e [(1, .adr h.length 0), (3, v), (4, .int .i64 i)] ∧ TxI h h' b v i) ?_ ?_
    · refine ⟨.nils, ?_, ?_⟩
      · (try (simp (disch := first | omega | (simp <;> omega) | fail) only [push_cast, ↓reduceIte, Nat.reduceEqDiff, Nat.reduceAdd, Nat.reduceMul, Nat.reduceSub, Nat.reduceLT, Int.reduceToNat]))
      · exact ⟨by simp, by rw [cells_h0]; rfl, [], S1.nil, by simp⟩
    rintro i e h' hi ⟨v, hp, ht⟩
    refine T_pins hp fun e => ?_
    have hlt := ht.1
    have hbox := ht.2.1
    (try (simp (disch := first | omega | (simp <;> omega) | fail) only [push_cast, ↓reduceIte, Nat.reduceEqDiff, Nat.reduceAdd, Nat.reduceMul, Nat.reduceSub, Nat.reduceLT, Int.reduceToNat, hbox, hn]))
    first | refine goC_split (fun hc => ?_) (fun hc => ?_) | refine cnd_split (fun hc => ?_) (fun hc => ?_)
    · (try (simp only [decide_eq_true_eq, decide_eq_false_iff_not, Bool.not_eq_true', Bool.not_eq_false', Bool.and_eq_true, Bool.or_eq_true, Int.not_lt, Int.not_le] at hc)); (try (simp (disch := first | omega | (simp <;> omega) | fail) only [push_cast, ↓reduceIte, Nat.reduceEqDiff, Nat.reduceAdd, Nat.reduceMul, Nat.reduceSub, Nat.reduceLT, Int.reduceToNat]))
      have hi2 : i < n := by omega
      (try (simp (disch := first | omega | (simp <;> omega) | fail) only [push_cast, ↓reduceIte, Nat.reduceEqDiff, Nat.reduceAdd, Nat.reduceMul, Nat.reduceSub, Nat.reduceLT, Int.reduceToNat, hbox]))
      refine (c_spec_biAt b _ _ i hw (okBt_hi hk hn hi2) (by omega)).call ?_
      cases hbit : (numW (lI b.words)).testBit i
      · (try (simp (disch := first | omega | (simp <;> omega) | fail) only [push_cast, ↓reduceIte, Nat.reduceEqDiff, Nat.reduceAdd, Nat.reduceMul, Nat.reduceSub, Nat.reduceLT, Int.reduceToNat, hbox]))
        refine TxI.app ht (pm := fun c => Nowhere c ∨ h.length ≤ c) (x := 48) (by_ := 1) (fun c hc => Or.inr (by omega)) (by rw [hbit]; rfl) (by omega) fun v' h'' ht' => ?_
        (try (simp (disch := first | omega | (simp <;> omega) | fail) only [push_cast, ↓reduceIte, Nat.reduceEqDiff, Nat.reduceAdd, Nat.reduceMul, Nat.reduceSub, Nat.reduceLT, Int.reduceToNat]))
        all_goals (try exact ⟨_, rfl, ht'⟩)
      · (try (simp (disch := first | omega | (simp <;> omega) | fail) only [push_cast, ↓reduceIte, Nat.reduceEqDiff, Nat.reduceAdd, Nat.reduceMul, Nat.reduceSub, Nat.reduceLT, Int.reduceToNat, hbox]))
        refine TxI.app ht (pm := fun c => Nowhere c ∨ h.length ≤ c) (x := 49) (by_ := 1) (fun c hc => Or.inr (by omega)) (by rw [hbit]; rfl) (by omega) fun v' h'' ht' => ?_
        (try (simp (disch := first | omega | (simp <;> omega) | fail) only [push_cast, ↓reduceIte, Nat.reduceEqDiff, Nat.reduceAdd, Nat.reduceMul, Nat.reduceSub, Nat.reduceLT, Int.reduceToNat]))
        all_goals (try exact ⟨_, rfl, ht'⟩)
    · (try (simp only [decide_eq_true_eq, decide_eq_false_iff_not, Bool.not_eq_true', Bool.not_eq_false', Bool.and_eq_true, Bool.or_eq_true, Int.not_lt, Int.not_le] at hc)); (try (simp (disch := first | omega | (simp <;> omega) | fail) only [push_cast, ↓reduceIte, Nat.reduceEqDiff, Nat.reduceAdd, Nat.reduceMul, Nat.reduceSub, Nat.reduceLT, Int.reduceToNat]))
      have hie : i = n := by omega
      subst hie
      obtain ⟨_, _, Bk, hs, _⟩ := ht
      have hcb := cbs_S1 hs
      try rw [hn, Int.toNat_natCast]
      (try (simp (disch := first | omega | (simp <;> omega) | fail) only [push_cast, ↓reduceIte, Nat.reduceEqDiff, Nat.reduceAdd, Nat.reduceMul, Nat.reduceSub, Nat.reduceLT, Int.reduceToNat, hcb]))

theorem c_impl_in (n lo hi : Int) : Fn Tryd.prog 70 [.int .i64 n, .int .i64 lo, .int .i64 hi] (· = .bool (decide (lo ≤ n) && decide (n ≤ hi))) := by
  refine Fn.of free_bool fun h => ?_
  refine enter (by kernel_rfl) e70 (by kernel_rfl) rfl fun hok => ?_
  simp only [r70, initEnv_3]
  (try (simp (disch := first | omega | (simp <;> omega) | fail) only [push_cast, ↓reduceIte, Nat.reduceEqDiff, Nat.reduceAdd, Nat.reduceMul, Nat.reduceSub, Nat.reduceLT, Int.reduceToNat]))
  first | refine goC_split (fun hc => ?_) (fun hc => ?_) | refine cnd_split (fun hc => ?_) (fun hc => ?_)
  · (try (simp only [decide_eq_true_eq, decide_eq_false_iff_not, Bool.not_eq_true', Bool.not_eq_false', Bool.and_eq_true, Bool.or_eq_true, Int.not_lt, Int.not_le] at hc)); (try (simp (disch := first | omega | (simp <;> omega) | fail) only [push_cast, ↓reduceIte, Nat.reduceEqDiff, Nat.reduceAdd, Nat.reduceMul, Nat.reduceSub, Nat.reduceLT, Int.reduceToNat]))
    first | refine goC_split (fun hd => ?_) (fun hd => ?_) | refine cnd_split (fun hd => ?_) (fun hd => ?_)
    · (try (simp only [decide_eq_true_eq, decide_eq_false_iff_not, Bool.not_eq_true', Bool.not_eq_false', Bool.and_eq_true, Bool.or_eq_true, Int.not_lt, Int.not_le] at hd)); (try (simp (disch := first | omega | (simp <;> omega) | fail) only [push_cast, ↓reduceIte, Nat.reduceEqDiff, Nat.reduceAdd, Nat.reduceMul, Nat.reduceSub, Nat.reduceLT, Int.reduceToNat]))
    · (try (simp only [decide_eq_true_eq, decide_eq_false_iff_not, Bool.not_eq_true', Bool.not_eq_false', Bool.and_eq_true, Bool.or_eq_true, Int.not_lt, Int.not_le] at hd)); (try (simp (disch := first | omega | (simp <;> omega) | fail) only [push_cast, ↓reduceIte, Nat.reduceEqDiff, Nat.reduceAdd, Nat.reduceMul, Nat.reduceSub, Nat.reduceLT, Int.reduceToNat]))
  · (try (simp only [decide_eq_true_eq, decide_eq_false_iff_not, Bool.not_eq_true', Bool.not_eq_false', Bool.and_eq_true, Bool.or_eq_true, Int.not_lt, Int.not_le] at hc)); (try (simp (disch := first | omega | (simp <;> omega) | fail) only [push_cast, ↓reduceIte, Nat.reduceEqDiff, Nat.reduceAdd, Nat.reduceMul, Nat.reduceSub, Nat.reduceLT, Int.reduceToNat]))
    try simp

theorem c_impl_IsBits (b : Bt) : Fn Tryd.prog 78 [eB b] (· = .bool (okBt b)) := by
  refine Fn.of free_bool fun h => ?_
  refine enter (by kernel_rfl) e78 (by kernel_rfl) rfl fun hok => ?_
  simp only [r78, initEnv_1]
  have hlen := ok_eI ((okV_0 hok).agg (eI b.words) (by simp [cB]))
  (try (simp (disch := first | omega | (simp <;> omega) | fail) only [push_cast, ↓reduceIte, Nat.reduceEqDiff, Nat.reduceAdd, Nat.reduceMul, Nat.reduceSub, Nat.reduceLT, Int.reduceToNat]))
  unfold okBt
  refine (c_impl_in _ _ _).call ?_
  cases h1 : (decide (0 ≤ b.size) && decide (b.size ≤ 4096))
  · (try (simp (disch := first | omega | (simp <;> omega) | fail) only [push_cast, ↓reduceIte, Nat.reduceEqDiff, Nat.reduceAdd, Nat.reduceMul, Nat.reduceSub, Nat.reduceLT, Int.reduceToNat]))
  have h3 : 0 ≤ b.size ∧ b.size ≤ 4096 := by simpa using h1
  (try (simp (disch := first | omega | (simp <;> omega) | fail) only [push_cast, ↓reduceIte, Nat.reduceEqDiff, Nat.reduceAdd, Nat.reduceMul, Nat.reduceSub, Nat.reduceLT, Int.reduceToNat]))
  refine (c_impl_words b.size (by omega) (by omega)).call ?_
  (try (simp (disch := first | omega | (simp <;> omega) | fail) only [push_cast, ↓reduceIte, Nat.reduceEqDiff, Nat.reduceAdd, Nat.reduceMul, Nat.reduceSub, Nat.reduceLT, Int.reduceToNat]))
  first | refine goC_split (fun hc => ?_) (fun hc => ?_) | refine cnd_split (fun hc => ?_) (fun hc => ?_)
  · (try (simp only [decide_eq_true_eq, decide_eq_false_iff_not, Bool.not_eq_true', Bool.not_eq_false', Bool.and_eq_true, Bool.or_eq_true, Int.not_lt, Int.not_le] at hc)); (try (simp (disch := first | omega | (simp <;> omega) | fail) only [push_cast, ↓reduceIte, Nat.reduceEqDiff, Nat.reduceAdd, Nat.reduceMul, Nat.reduceSub, Nat.reduceLT, Int.reduceToNat]))
    all_goals (try simp [hc])
  (try (simp only [decide_eq_true_eq, decide_eq_false_iff_not, Bool.not_eq_true', Bool.not_eq_false', Bool.and_eq_true, Bool.or_eq_true, Int.not_lt, Int.not_le] at hc)); (try (simp (disch := first | omega | (simp <;> omega) | fail) only [push_cast, ↓reduceIte, Nat.reduceEqDiff, Nat.reduceAdd, Nat.reduceMul, Nat.reduceSub, Nat.reduceLT, Int.reduceToNat]))
  have hc2 : ((lI b.words).length : Int) = (b.size + 15) / 16 := by omega
  refine T_for (lI b.words).length (fun i e h' => Pins e [(1, .adr h.length 0), (20, eI b.words), (21, .int .i64 (lI b.words).length), (22, .int .i64 i)] ∧ (h.length < h'.length ∧ H.cells h' h.length = some (cB b)) ∧ okWords ((lI b.words).take i) = true) ?_ ?_
  · (try (simp (disch := first | omega | (simp <;> omega) | fail) only [push_cast, ↓reduceIte, Nat.reduceEqDiff, Nat.reduceAdd, Nat.reduceMul, Nat.reduceSub, Nat.reduceLT, Int.reduceToNat]))
    all_goals (try simp [okWords, cB])
  rintro i e h' hi ⟨hp, ⟨hlt, hbox⟩, ha⟩
  refine T_pins hp fun e => ?_
  (try (simp (disch := first | omega | (simp <;> omega) | fail) only [push_cast, ↓reduceIte, Nat.reduceEqDiff, Nat.reduceAdd, Nat.reduceMul, Nat.reduceSub, Nat.reduceLT, Int.reduceToNat, hbox]))
  first | refine goC_split (fun hd => ?_) (fun hd => ?_) | refine cnd_split (fun hd => ?_) (fun hd => ?_)
  · (try (simp only [decide_eq_true_eq, decide_eq_false_iff_not, Bool.not_eq_true', Bool.not_eq_false', Bool.and_eq_true, Bool.or_eq_true, Int.not_lt, Int.not_le] at hd)); (try (simp (disch := first | omega | (simp <;> omega) | fail) only [push_cast, ↓reduceIte, Nat.reduceEqDiff, Nat.reduceAdd, Nat.reduceMul, Nat.reduceSub, Nat.reduceLT, Int.reduceToNat]))
    have hi2 : i < (lI b.words).length := by omega
    (try (simp (disch := first | omega | (simp <;> omega) | fail) only [push_cast, ↓reduceIte, Nat.reduceEqDiff, Nat.reduceAdd, Nat.reduceMul, Nat.reduceSub, Nat.reduceLT, Int.reduceToNat, hbox]))
    refine (c_impl_in _ _ _).call ?_
    have hn : okWords ((lI b.words).take (i + 1)) = (decide (0 ≤ (lI b.words).getD i 0) && decide ((lI b.words).getD i 0 ≤ 65535)) := by
      unfold okWords at ha ⊢
      rw [List.take_add_one, List.all_append, ha]
      simp [hi2]
    cases hk : (decide (0 ≤ (lI b.words).getD i 0) && decide ((lI b.words).getD i 0 ≤ 65535))
    · have hno : okWords (lI b.words) = false := by
        unfold okWords
        rw [List.all_eq_false]
        exact ⟨(lI b.words).getD i 0, by simp [hi2], by rw [hk]; simp⟩
      (try (simp (disch := first | omega | (simp <;> omega) | fail) only [push_cast, ↓reduceIte, Nat.reduceEqDiff, Nat.reduceAdd, Nat.reduceMul, Nat.reduceSub, Nat.reduceLT, Int.reduceToNat, hbox]))
      rw [hno]
      all_goals (try simp)
    · (try (simp (disch := first | omega | (simp <;> omega) | fail) only [push_cast, ↓reduceIte, Nat.reduceEqDiff, Nat.reduceAdd, Nat.reduceMul, Nat.reduceSub, Nat.reduceLT, Int.reduceToNat, hbox]))
      rw [hn, hk]
      all_goals (try simp)
      all_goals (try exact hbox)
  · (try (simp only [decide_eq_true_eq, decide_eq_false_iff_not, Bool.not_eq_true', Bool.not_eq_false', Bool.and_eq_true, Bool.or_eq_true, Int.not_lt, Int.not_le] at hd)); (try (simp (disch := first | omega | (simp <;> omega) | fail) only [push_cast, ↓reduceIte, Nat.reduceEqDiff, Nat.reduceAdd, Nat.reduceMul, Nat.reduceSub, Nat.reduceLT, Int.reduceToNat]))
    have he : (lI b.words).take i = lI b.words := List.take_of_length_le (by omega)
    rw [he] at ha
    have hdec : decide (((lI b.words).length : Int) = (b.size + 15) / 16) = true := by simp [hc2]
    rw [ha]
    try rw [hdec]
    unfold lastOk
    by_cases hz : b.size % 16 = 0
    · (try (simp (disch := first | omega | (simp <;> omega) | fail) only [push_cast, ↓reduceIte, Nat.reduceEqDiff, Nat.reduceAdd, Nat.reduceMul, Nat.reduceSub, Nat.reduceLT, Int.reduceToNat, hbox, hz]))
      all_goals (try simp)
    · have hln : 1 ≤ (lI b.words).length := by omega
      have hm : 0 ≤ b.size % 16 ∧ b.size % 16 ≤ 15 := by omega
      (try (simp (disch := first | omega | (simp <;> omega) | fail) only [push_cast, ↓reduceIte, Nat.reduceEqDiff, Nat.reduceAdd, Nat.reduceMul, Nat.reduceSub, Nat.reduceLT, Int.reduceToNat, hbox, hz]))
      (first | refine goC_split (fun hc => ?_) (fun hc => ?_) | refine cnd_split (fun hc => ?_) (fun hc => ?_)) <;> ((try (simp (disch := first | omega | (simp <;> omega) | fail) only [push_cast, ↓reduceIte, Nat.reduceEqDiff, Nat.reduceAdd, Nat.reduceMul, Nat.reduceSub, Nat.reduceLT, Int.reduceToNat]))) <;> (try rw [hc])

theorem c_impl_Bits_at (ws : Option (List Int)) (B m i : Nat) (cs : List AV) (off : Nat) (h1 : cs[off + 1]? = some (eI ws)) (hw : lI ws = wordsN B m) (hi : i < 16 * m) (hm : m ≤ 1000000) : Fn Tryd.prog 79 [.rad cs off, .int .i64 i] (· = .bool (B.testBit i)) := by
  refine Fn.of free_bool fun h => ?_
  refine enter (by kernel_rfl) e79 (by kernel_rfl) rfl fun hok => ?_
  simp only [r79, initEnv_2]
  have hln : (lI ws).length = m := by rw [hw, wordsN_len]
  have hat := at_word hw hi
  (try (simp (disch := first | omega | (simp <;> omega) | fail) only [push_cast, ↓reduceIte, Nat.reduceEqDiff, Nat.reduceAdd, Nat.reduceMul, Nat.reduceSub, Nat.reduceLT, Int.reduceToNat, h1]))
  rw [← hat]
  (first | refine goC_split (fun hc => ?_) (fun hc => ?_) | refine cnd_split (fun hc => ?_) (fun hc => ?_)) <;> ((try (simp (disch := first | omega | (simp <;> omega) | fail) only [push_cast, ↓reduceIte, Nat.reduceEqDiff, Nat.reduceAdd, Nat.reduceMul, Nat.reduceSub, Nat.reduceLT, Int.reduceToNat]))) <;> (try rw [hc])

theorem c_impl_BitsText (b : Bt) : Fn Tryd.prog 42 [eB b] (· = if okBt b then .tup [.str (btText b), .bool true] else .tup [.str [], .bool false]) := by
  refine Fn.of (by split <;> exact free_tup (free_cons_ free_str (free_cons_ free_bool free_nil_))) fun h => ?_
  refine enter (by kernel_rfl) e42 (by kernel_rfl) rfl fun hok => ?_
  simp only [r42, initEnv_1]
  (try (simp (disch := first | omega | (simp <;> omega) | fail) only [push_cast, ↓reduceIte, Nat.reduceEqDiff, Nat.reduceAdd, Nat.reduceMul, Nat.reduceSub, Nat.reduceLT, Int.reduceToNat]))
  refine (c_impl_IsBits b).call ?_
  cases hk : okBt b
  · (try (simp (disch := first | omega | (simp <;> omega) | fail) only [push_cast, ↓reduceIte, Nat.reduceEqDiff, Nat.reduceAdd, Nat.reduceMul, Nat.reduceSub, Nat.reduceLT, Int.reduceToNat]))
    all_goals (try rfl)
  obtain ⟨hw, k0, k1, k2⟩ := okBt_num hk
  unfold btText
  by_cases hz : b.size = 0
  · (try (simp (disch := first | omega | (simp <;> omega) | fail) only [push_cast, ↓reduceIte, Nat.reduceEqDiff, Nat.reduceAdd, Nat.reduceMul, Nat.reduceSub, Nat.reduceLT, Int.reduceToNat, hz]))
    all_goals (try rfl)
  · rw [if_neg hz]
    obtain ⟨n, hn⟩ : ∃ n : Nat, b.size = (n : Int) := ⟨b.size.toNat, by omega⟩
    (try (simp (disch := first | omega | (simp <;> omega) | fail) only [push_cast, ↓reduceIte, Nat.reduceEqDiff, Nat.reduceAdd, Nat.reduceMul, Nat.reduceSub, Nat.reduceLT, Int.reduceToNat, hz]))
    refine T_for n (fun i e h' => ∃ v, Pins e [(1, .adr h.length 0), (4, v), (15, .int .i64 n), (16, .int .i64 i)] ∧ TxI h h' b v i) ?_ ?_
    · refine ⟨.sl (h.length + 1) 0 1 0 0, ?_, ?_⟩
      · (try (simp (disch := first | omega | (simp <;> omega) | fail) only [push_cast, ↓reduceIte, Nat.reduceEqDiff, Nat.reduceAdd, Nat.reduceMul, Nat.reduceSub, Nat.reduceLT, Int.reduceToNat, hn]))
      · exact ⟨by simp, by rw [cells_h0]; rfl, [h.length + 1], ⟨by simp [textB, u8s], .inr ⟨h.length + 1, rfl, rfl, by rw [cells_hk]; rfl⟩⟩, by simp⟩
    rintro i e h' hi ⟨v, hp, ht⟩
    refine T_pins hp fun e => ?_
    have hlt := ht.1
    have hbox := ht.2.1
    (try (simp (disch := first | omega | (simp <;> omega) | fail) only [push_cast, ↓reduceIte, Nat.reduceEqDiff, Nat.reduceAdd, Nat.reduceMul, Nat.reduceSub, Nat.reduceLT, Int.reduceToNat, hbox]))
    first | refine goC_split (fun hc => ?_) (fun hc => ?_) | refine cnd_split (fun hc => ?_) (fun hc => ?_)
    · (try (simp only [decide_eq_true_eq, decide_eq_false_iff_not, Bool.not_eq_true', Bool.not_eq_false', Bool.and_eq_true, Bool.or_eq_true, Int.not_lt, Int.not_le] at hc)); (try (simp (disch := first | omega | (simp <;> omega) | fail) only [push_cast, ↓reduceIte, Nat.reduceEqDiff, Nat.reduceAdd, Nat.reduceMul, Nat.reduceSub, Nat.reduceLT, Int.reduceToNat]))
      have hi2 : i < n := by omega
      (try (simp (disch := first | omega | (simp <;> omega) | fail) only [push_cast, ↓reduceIte, Nat.reduceEqDiff, Nat.reduceAdd, Nat.reduceMul, Nat.reduceSub, Nat.reduceLT, Int.reduceToNat, hbox]))
      refine (c_impl_Bits_at b.words _ _ i (cB b) 0 rfl hw (okBt_hi hk hn hi2) (by omega)).lendL (.adr hbox free_cB (.free free_int .nil)) own_bool ?_
      cases hbit : (numW (lI b.words)).testBit i
      · (try (simp (disch := first | omega | (simp <;> omega) | fail) only [push_cast, ↓reduceIte, Nat.reduceEqDiff, Nat.reduceAdd, Nat.reduceMul, Nat.reduceSub, Nat.reduceLT, Int.reduceToNat, hbox]))
        refine TxI.app ht (pm := fun c => Nowhere c ∨ h.length ≤ c) (x := 48) (by_ := 1) (fun c hc => Or.inr (by omega)) (by rw [hbit]; rfl) (by omega) fun v' h'' ht' => ?_
        (try (simp (disch := first | omega | (simp <;> omega) | fail) only [push_cast, ↓reduceIte, Nat.reduceEqDiff, Nat.reduceAdd, Nat.reduceMul, Nat.reduceSub, Nat.reduceLT, Int.reduceToNat]))
        all_goals (try exact ⟨_, rfl, ht'⟩)
      · (try (simp (disch := first | omega | (simp <;> omega) | fail) only [push_cast, ↓reduceIte, Nat.reduceEqDiff, Nat.reduceAdd, Nat.reduceMul, Nat.reduceSub, Nat.reduceLT, Int.reduceToNat, hbox]))
        refine TxI.app ht (pm := fun c => Nowhere c ∨ h.length ≤ c) (x := 49) (by_ := 1) (fun c hc => Or.inr (by omega)) (by rw [hbit]; rfl) (by omega) fun v' h'' ht' => ?_
        (try (simp (disch := first | omega | (simp <;> omega) | fail) only [push_cast, ↓reduceIte, Nat.reduceEqDiff, Nat.reduceAdd, Nat.reduceMul, Nat.reduceSub, Nat.reduceLT, Int.reduceToNat]))
        all_goals (try exact ⟨_, rfl, ht'⟩)
    · (try (simp only [decide_eq_true_eq, decide_eq_false_iff_not, Bool.not_eq_true', Bool.not_eq_false', Bool.and_eq_true, Bool.or_eq_true, Int.not_lt, Int.not_le] at hc)); (try (simp (disch := first | omega | (simp <;> omega) | fail) only [push_cast, ↓reduceIte, Nat.reduceEqDiff, Nat.reduceAdd, Nat.reduceMul, Nat.reduceSub, Nat.reduceLT, Int.reduceToNat]))
      have hie : i = n := by omega
      subst hie
      obtain ⟨_, _, Bk, hs, _⟩ := ht
      have hcb := cbs_S1 hs
      try rw [hn, Int.toNat_natCast]
      (try (simp (disch := first | omega | (simp <;> omega) | fail) only [push_cast, ↓reduceIte, Nat.reduceEqDiff, Nat.reduceAdd, Nat.reduceMul, Nat.reduceSub, Nat.reduceLT, Int.reduceToNat, hcb]))
      all_goals (try rfl)

end Go.Proofs.YtoappkfndnggnaaDoor.M
