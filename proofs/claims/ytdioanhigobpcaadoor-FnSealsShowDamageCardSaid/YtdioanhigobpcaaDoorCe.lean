/-
  What the functions return.
-/
import Derived.Test.YtdioanhigobpcaaDoorFe
import Derived.Test.YtdioanhigobpcaaDoorShelf
import Derived.Lib.ItoaLen
namespace Go.Proofs.YtdioanhigobpcaaDoor.M
open Go Go.RowKit
set_option linter.unusedVariables false
set_option linter.unusedSimpArgs false
set_option maxRecDepth 4000

/-- What is left of a budget. -/
def szv (left : Int) (w : Nat) : Int := if (w : Int) ≤ left then left - w else -1
theorem szv_ok {left : Int} {w : Nat} (h : 0 ≤ szv left w) : (w : Int) ≤ left := by
  unfold szv at h
  split at h <;> omega
def wS (a : Option (List Str)) : Nat := (lS a).length + ((lS a).map List.length).sum
theorem sum_take_le (l : List Nat) (i : Nat) : (l.take i).sum ≤ l.sum := by
  have := congrArg List.sum (List.take_append_drop i l)
  rw [List.sum_append] at this
  omega
theorem sum_take_succ {l : List Nat} {i : Nat} (hi : i < l.length) : (l.take (i + 1)).sum = (l.take i).sum + l.getD i 0 := by
  rw [List.take_add_one, List.sum_append]
  simp [hi]

--eng eB cB
structure Bt where
  size : Int
  words : Option (List Int)
  deriving Inhabited
def cB (b : Bt) : List AV := [.int .i64 b.size, eI b.words]
theorem cB_len (b : Bt) : (cB b).length = 2 := rfl
def eB (b : Bt) : AV := .agg (cB b)
theorem free_cB {b : Bt} : ∀ c ∈ cB b, Free c := free_cons_ free_int (free_cons_ free_eI free_nil_)
theorem free_eB {b : Bt} : Free (eB b) := free_agg free_cB
def cpB (b : Bt) : Bt := ⟨b.size, some (lI b.words)⟩
/-- The last word has no bit behind the size. -/
def lastOk (size : Int) (ws : List Int) : Bool := decide (size % 16 = 0) || decide (Int.fdiv (ws.getD (ws.length - 1) 0) (2 ^ (min (size % 16).toNat IntKind.i64.bits)) = 0)
def okWords (ws : List Int) : Bool := ws.all fun w => decide (0 ≤ w) && decide (w ≤ 65535)
def okBt (b : Bt) : Bool := (decide (0 ≤ b.size) && decide (b.size ≤ 4096)) && (decide (((lI b.words).length : Int) = (b.size + 15) / 16) && (okWords (lI b.words) && lastOk b.size (lI b.words)))
theorem okBt_words {b : Bt} (h : okBt b = true) : ∃ B : Nat, lI b.words = wordsN B (lI b.words).length ∧ 0 ≤ b.size ∧ b.size ≤ 4096 ∧ ((lI b.words).length : Int) = (b.size + 15) / 16 := by
  simp only [okBt, okWords, Bool.and_eq_true, decide_eq_true_eq, List.all_eq_true] at h
  exact ⟨numW (lI b.words), (wordsN_num h.2.2.1).symm, h.1.1, h.1.2, h.2.1⟩

attribute [push_cast] eB cB
theorem at_word {B m i : Nat} {ws : List Int} (hw : ws = wordsN B m) (hi : i < 16 * m) : decide (bitsI .and .i64 (Int.fdiv (ws.getD ((i : Int) / 16).toNat 0) (2 ^ (min ((i : Int) % 16).toNat IntKind.i64.bits))) 1 = 1) = B.testBit i := by
  have e1 : ((i : Int) / 16).toNat = i / 16 := by omega
  have e2 : ((i : Int) % 16).toNat = i % 16 := by omega
  rw [hw, e1, e2, wordsN_get (by omega), at_bit wordN_lt (by omega), wordN_bit (by omega)]
  congr 1
  omega

def okCh (c : UInt8) : Bool := decide (32 ≤ (c.toNat : Int)) && decide ((c.toNat : Int) ≤ 125)
def plain (s : Str) : Bool := s.all okCh
def plainV (s : Str) : Bool := plain s && decide ((s.length : Int) ≤ 6000)
/-- The checksum of the first so many. -/
def chk (s : Str) : Nat → Int
  | 0 => 0
  | i + 1 => (chk s i + ((i : Int) + 1) * ((s.getD i 0).toNat : Int)) % 65521
theorem chk_bd (s : Str) : ∀ i, 0 ≤ chk s i ∧ chk s i < 65521
  | 0 => by simp [chk]
  | i + 1 => by
    unfold chk
    omega
def sealT (s : Str) : Str := s ++ 126 :: Lib.decDigits (chk s s.length).toNat
def sealV (s : Str) : AV := if plainV s then .tup [.str (sealT s), .bool true] else .tup [.str [], .bool false]
theorem free_sealV {s : Str} : Free (sealV s) := by
  unfold sealV
  split <;> exact free_tup (free_cons_ free_str (free_cons_ free_bool free_nil_))
theorem plain_take {s : Str} {i : Nat} (hi : i < s.length) : plain (s.take (i + 1)) = (plain (s.take i) && okCh (s.getD i 0)) := by
  unfold plain
  rw [List.take_add_one, List.all_append]
  simp [hi]
theorem plain_no {s : Str} {i : Nat} (hi : i < s.length) (hf : okCh (s.getD i 0) = false) : plain s = false := by
  unfold plain
  rw [List.all_eq_false]
  exact ⟨s.getD i 0, by simp [hi], by rw [hf]; simp⟩
theorem itoa_nn {n : Int} (h : 0 ≤ n) : Lib.itoa n = Lib.decDigits n.toNat := by
  unfold Lib.itoa
  rw [if_neg (by omega)]
theorem dec_len {n : Nat} (h : n < 18446744073709551616) : (Lib.decDigits n).length ≤ 20 := by
  rw [Lib.decDigits_length]
  exact Lib.nDigits_le20 n h
theorem dec_rec {n : Nat} : Lib.decDigits n = if n < 10 then [UInt8.ofNat (48 + n)] else Lib.decDigits (n / 10) ++ [UInt8.ofNat (48 + n % 10)] := by
  rw [Lib.decDigits]
  split <;> rfl
theorem dec_plain : ∀ n : Nat, ∀ c ∈ Lib.decDigits n, 48 ≤ c.toNat ∧ c.toNat ≤ 57 := fun n => by
  induction n using Nat.strongRecOn with
  | _ n ih =>
    rw [dec_rec]
    by_cases hn : n < 10
    · rw [if_pos hn]
      intro c hc
      simp at hc
      subst hc
      simp
      omega
    · rw [if_neg hn]
      intro c hc
      rcases List.mem_append.1 hc with hc | hc
      · exact ih (n / 10) (by omega) c hc
      · simp at hc
        subst hc
        simp
        omega

theorem fits_cons {s : Sh} {ss : List Sh} {zs : List AV} (h : Fits (s :: ss) zs) : ∃ xs ys, zs = xs ++ ys ∧ Fit s xs ∧ Fits ss ys := by
  cases h with
  | cons h hr => exact ⟨_, _, rfl, h, hr⟩
theorem fits_nil {zs : List AV} (h : Fits [] zs) : zs = [] := by cases h; rfl
theorem fit_int {zs : List AV} (h : Fit (.int .i64) zs) : ∃ n : Int, zs = [.int .i64 n] ∧ -9223372036854775808 ≤ n ∧ n ≤ 9223372036854775807 := by
  cases h with
  | int h1 h2 => exact ⟨_, rfl, by simpa [IntKind.min, IntKind.signed, IntKind.bits] using h1, by simpa [IntKind.max, IntKind.signed, IntKind.bits] using h2⟩
theorem fit_str {zs : List AV} (h : Fit .str zs) : ∃ s : Str, zs = [.str s] ∧ s.length ≤ 9223372036854775807 := by
  cases h with
  | str h => exact ⟨_, rfl, h⟩
theorem fit_st {fs : List Sh} {zs : List AV} (h : Fit (.st fs) zs) : Fits fs zs := by
  cases h with
  | st h => exact h
theorem flatMap_eq {α β : Type} {f g : α → List β} : ∀ {l : List α}, (∀ a ∈ l, f a = g a) → l.flatMap f = l.flatMap g
  | [], _ => rfl
  | a :: l, h => by
    rw [List.flatMap_cons, List.flatMap_cons, h a (by simp), flatMap_eq fun b hb => h b (by simp [hb])]
theorem fit_strs {zs : List AV} (h : Fit (.sl .str 1) zs) : ∃ a : Option (List Str), zs = [eS a] := by
  cases h with
  | nil => exact ⟨none, rfl⟩
  | @sl _ _ n g hm hl h =>
    have hg : ∀ i, ∃ s : Str, i < n → g i = [.str s] := fun i => by
      by_cases hi : i < n
      · obtain ⟨s, hs, _⟩ := fit_str (h i hi)
        exact ⟨s, fun _ => hs⟩
      · exact ⟨[], fun h => absurd h hi⟩
    refine ⟨some ((List.range n).map fun i => Classical.choose (hg i)), ?_⟩
    simp only [eS, List.length_map, List.length_range, List.map_map]
    congr 2
    rw [← List.flatMap_singleton' ((List.range n).map _), List.flatMap_map]
    refine flatMap_eq fun i hi => ?_
    rw [Classical.choose_spec (hg i) (List.mem_range.1 hi)]
    rfl
theorem argsFit_cons {s : Sh} {ss : List Sh} {zs : List AV} (h : ArgsFit (s :: ss) zs) : ∃ xs ys, zs = argOf s xs :: ys ∧ Fit s xs ∧ ArgsFit ss ys := by
  cases h with
  | cons h hr => exact ⟨_, _, rfl, h, hr⟩
theorem argsFit_nil {zs : List AV} (h : ArgsFit [] zs) : zs = [] := by cases h; rfl

theorem fit_rows {α : Type} [Inhabited α] {s : Sh} {w : Nat} {f : α → List AV} (hf : ∀ xs, Fit s xs → ∃ a, xs = f a) {zs : List AV} (h : Fit (.sl s w) zs) : zs = [.nils] ∨ ∃ l : List α, zs = [.ro w (l.flatMap f) l.length] := by
  cases h with
  | nil => exact .inl rfl
  | @sl _ _ n g hm hl h =>
    have hg : ∀ i, ∃ a : α, i < n → g i = f a := fun i => by
      by_cases hi : i < n
      · obtain ⟨a, ha⟩ := hf _ (h i hi)
        exact ⟨a, fun _ => ha⟩
      · exact ⟨default, fun h => absurd h hi⟩
    refine .inr ⟨(List.range n).map fun i => Classical.choose (hg i), ?_⟩
    rw [List.length_map, List.length_range, List.flatMap_map]
    congr 2
    exact flatMap_eq fun i hi => Classical.choose_spec (hg i) (List.mem_range.1 hi)
theorem flatMap_one {α : Type} {f : α → AV} : ∀ {l : List α}, l.flatMap (fun a => [f a]) = l.map f
  | [] => rfl
  | a :: l => by rw [List.flatMap_cons, flatMap_one]; rfl
theorem fit_ints {zs : List AV} (h : Fit (.sl (.int .i64) 1) zs) : ∃ a : Option (List Int), zs = [eI a] := by
  rcases fit_rows (f := fun n : Int => [AV.int .i64 n]) (fun xs hx => by obtain ⟨n, hn, _⟩ := fit_int hx; exact ⟨n, hn⟩) h with rfl | ⟨l, rfl⟩
  · exact ⟨none, rfl⟩
  · exact ⟨some l, by rw [flatMap_one]; rfl⟩

def u8s (s : Str) : List AV := s.map fun c => .int .u8 (c.toNat : Int)
theorem asInts_u8s : ∀ s : Str, asInts (u8s s) = some s
  | [] => rfl
  | c :: s => by
    have ih := asInts_u8s s
    unfold u8s at ih ⊢
    rw [List.map_cons, asInts, ih]
    simp
theorem cbs_S1 {h : H} {v : AV} {s : Str} {n : Nat} {B : List Nat} (hs : S1 h 1 v n (u8s s) B) : cbsA h v = some (.str s) := by
  obtain ⟨hl, hs⟩ := hs
  have hn : s.length = n := by
    unfold u8s at hl
    simpa using hl
  rcases hs with ⟨rfl, h0, _⟩ | ⟨b, rfl, _, hc⟩
  · subst h0
    rw [List.eq_nil_of_length_eq_zero hn]
    rfl
  · have hul : (u8s s).length = n := by simpa using hl
    simp only [cbsA, hc, Option.bind_some, if_true]
    rw [if_pos (by omega), List.drop_zero, List.take_of_length_le (by omega), asInts_u8s]
    rfl
def bitC (b : Bool) : UInt8 := if b then 49 else 48
def textB (B n : Nat) : Str := (List.range n).map fun i => bitC (B.testBit i)
theorem textB_len {B n : Nat} : (textB B n).length = n := by simp [textB]
theorem textB_succ {B n : Nat} : u8s (textB B (n + 1)) = u8s (textB B n) ++ [.int .u8 ((bitC (B.testBit n)).toNat : Int)] := by
  simp [u8s, textB, List.range_succ]
def btText (b : Bt) : Str := if b.size = 0 then [45] else textB (numW (lI b.words)) b.size.toNat
theorem okBt_num {b : Bt} (h : okBt b = true) : lI b.words = wordsN (numW (lI b.words)) (lI b.words).length ∧ 0 ≤ b.size ∧ b.size ≤ 4096 ∧ ((lI b.words).length : Int) = (b.size + 15) / 16 := by
  simp only [okBt, okWords, Bool.and_eq_true, decide_eq_true_eq, List.all_eq_true] at h
  exact ⟨(wordsN_num h.2.2.1).symm, h.1.1, h.1.2, h.2.1⟩
theorem btText_len {b : Bt} (h : okBt b = true) : (btText b).length ≤ 4096 := by
  obtain ⟨_, h1, h2, _⟩ := okBt_num h
  unfold btText
  split
  · simp
  · rw [textB_len]
    omega
theorem okBt_hi {b : Bt} (h : okBt b = true) {n i : Nat} (hn : b.size = (n : Int)) (hi : i < n) : i < 16 * (lI b.words).length := by
  obtain ⟨_, h1, h2, h3⟩ := okBt_num h
  omega
def shBits : Sh := .st [.int .i64, .sl (.int .i64) 1]
theorem fit_bits {zs : List AV} (h : Fit shBits zs) : ∃ b, argOf shBits zs = eB b := by
  obtain ⟨x1, y1, rfl, h1, h⟩ := fits_cons (fit_st h)
  obtain ⟨x2, y2, rfl, h2, h⟩ := fits_cons h
  obtain rfl := fits_nil h
  obtain ⟨n, rfl, _⟩ := fit_int h1
  obtain ⟨a, rfl⟩ := fit_ints h2
  exact ⟨⟨n, a⟩, rfl⟩
def imgBV (b : Bt) : AV := if okBt b then sealV ([98, 105, 116, 115, 32] ++ btText b) else .tup [.str [], .bool false]
theorem free_imgBV {b : Bt} : Free (imgBV b) := by
  unfold imgBV
  split
  · exact free_sealV
  · exact free_tup (free_cons_ free_str (free_cons_ free_bool free_nil_))
/-- The loop: what is written so far, behind the box. -/
def TxI (h h' : H) (b : Bt) (v : AV) (i : Nat) : Prop := h.length < h'.length ∧ H.cells h' h.length = some (cB b) ∧ ∃ Bk, S1 h' 1 v i (u8s (textB (numW (lI b.words)) i)) Bk ∧ ∀ c ∈ Bk, h.length < c
theorem TxI.app {h h' : H} {b : Bt} {v : AV} {i : Nat} {x : Int} {by_ : Nat} {pm : Nat → Prop} {Q : AV → H → Prop} (ht : TxI h h' b v i) (hpm : ∀ c, h.length < c → pm c) (hx : x = ((bitC ((numW (lI b.words)).testBit i)).toNat : Int)) (hb : (i + 1) * by_ ≤ 140737488355328)
    (hQ : ∀ v' h'', TxI h h'' b v' (i + 1) → Q v' h'') : apA pm (h' ++ [some (.cells [.int .u8 x])]) Q 1 by_ (some ([.int .u8 x], 1)) v := by
  obtain ⟨t1, t2, Bk, t3, t4⟩ := ht
  have t5 := t3.frame (h' := h' ++ [some (.cells [.int .u8 x])]) fun c hc => List.getElem?_append_left (t3.lt c hc)
  refine t5.app (fun c hc => hpm c (t4 c hc)) rfl (by decide) hb (fun v' h'' B' q1 q2 q3 q4 => hQ v' h'' ⟨?_, ?_, B', ?_, fun c hc => ?_⟩)
  · simp at q2
    omega
  · rw [cells_eq, q3 h.length (by simp; omega) (fun hc => absurd (t4 _ hc) (Nat.lt_irrefl _)), List.getElem?_append_left t1, ← cells_eq]
    exact t2
  · rw [textB_succ, ← hx]
    exact q1
  · rcases q4 c hc with h5 | h5
    · exact t4 c h5
    · simp at h5
      omega

def eU : Option (List UInt8) → AV
  | none => .nils
  | some l => .ro 1 (u8s l) l.length
def lU : Option (List UInt8) → List UInt8
  | none => []
  | some l => l
theorem lenA_eU {l : Option (List UInt8)} : lenA (eU l) = some (.int .i64 (lU l).length) := by cases l <;> rfl
theorem iaddr_eU {l : Option (List UInt8)} {k : IntKind} {n : Int} (h1 : 0 ≤ n) (h2 : n < (lU l).length) : iaddrA 1 (eU l) (.int k n) = some (.rad (u8s (lU l)) n.toNat) := by
  cases l with
  | none => simp [lU] at h2; omega
  | some l => exact (iaddrA_ro h1 h2).trans (by simp [lU])
theorem get_U {l : List UInt8} {i : Nat} (hi : i < l.length) : (u8s l)[i]? = some (.int .u8 ((l.getD i 0).toNat : Int)) := by simp [u8s, hi]
theorem one_eU {l : Option (List UInt8)} : one (eU l) = true := by cases l <;> rfl
theorem cellsOf_eU {l : Option (List UInt8)} : cellsOf (eU l) = [eU l] := by cases l <;> rfl
theorem free_eU {l : Option (List UInt8)} : Free (eU l) := by
  cases l with
  | none => exact free_nils
  | some l => exact free_ro (free_map_ fun _ => free_int)
theorem ok_eU {l : Option (List UInt8)} (h : OkV (eU l)) : (lU l).length ≤ 9223372036854775807 := by
  cases l with
  | none => simp [lU]
  | some l => exact h.ro.1
attribute [push_cast] lenA_eU iaddr_eU get_U one_eU cellsOf_eU
/-- The cursor in block b: what it reads, and how far it may be. -/
def CurI (h : H) (b : Nat) (c : Option (List UInt8)) (K : Nat) : Prop := ∃ (at_ : Nat) (sd : Int), h.cells b = some [eU c, .int .i64 at_, .int .u64 sd] ∧ at_ ≤ K
/-- Nothing else is touched. -/
def CurS (h h' : H) (b : Nat) (c : Option (List UInt8)) (K : Nat) : Prop := h'.length = h.length ∧ (∀ b', b' ≠ b → h'[b']? = h[b']?) ∧ CurI h' b c K
theorem CurI.lt {h : H} {b K : Nat} {c : Option (List UInt8)} (hc : CurI h b c K) : b < h.length := by
  obtain ⟨a, s, h1, _⟩ := hc
  exact cells_lt h1
theorem CurI.frame {h h' : H} {b K : Nat} {c : Option (List UInt8)} (hc : CurI h b c K) (hk : h'[b]? = h[b]?) : CurI h' b c K := by
  obtain ⟨a, s, h1, h2⟩ := hc
  exact ⟨a, s, by rw [cells_eq, hk, ← cells_eq]; exact h1, h2⟩
theorem CurI.mono {h : H} {b K K' : Nat} {c : Option (List UInt8)} (hc : CurI h b c K) (hk : K ≤ K') : CurI h b c K' := by
  obtain ⟨a, s, h1, h2⟩ := hc
  exact ⟨a, s, h1, by omega⟩
theorem and255 (x : Int) : 0 ≤ bitsI .and .u64 x 255 ∧ bitsI .and .u64 x 255 ≤ 255 := by
  have h1 : (BitVec.ofInt 64 x &&& BitVec.ofInt 64 255).toNat ≤ 255 := by
    rw [BitVec.toNat_and]
    exact Nat.le_trans Nat.and_le_right (by decide)
  have h2 : bitsI .and .u64 x 255 = ((BitVec.ofInt 64 x &&& BitVec.ofInt 64 255).toNat : Int) := by
    show IntKind.u64.wrap ((BitVec.ofInt 64 x &&& BitVec.ofInt 64 255).toNat : Int) = _
    rw [IntKind.wrap_u64]
    omega
  rw [h2]
  omega
theorem wrap_and255 (x : Int) : IntKind.i64.wrap (bitsI .and .u64 x 255) = bitsI .and .u64 x 255 := wrap_ok (by have := and255 x; omega) (by have := and255 x; omega)
theorem cells_wr {h : H} {b : Nat} (hb : b < h.length) (cs : List AV) : H.cells (wr h b cs) b = some cs := by
  rw [cells_eq]
  unfold wr
  rw [List.getElem?_set_self hb]
  rfl
theorem wr_wr {h : H} {b : Nat} (cs cs' : List AV) : wr (wr h b cs) b cs' = wr h b cs' := by
  unfold wr
  rw [List.set_set]
/-- The text that is drawn, so far: behind the cursor. -/
def PlI (h0 h' : H) (b : Nat) (c : Option (List UInt8)) (K : Nat) (v : AV) (s : Str) : Prop :=
  h0.length ≤ h'.length ∧ b < h0.length ∧ CurI h' b c K ∧ ∃ B, S1 h' 1 v s.length (u8s s) B ∧ ∀ x ∈ B, h0.length ≤ x
theorem PlI.step {h0 h' h2 : H} {b K K' : Nat} {c : Option (List UInt8)} {v : AV} {s : Str} (hp : PlI h0 h' b c K v s) (hs : CurS h' h2 b c K') : PlI h0 h2 b c K' v s := by
  obtain ⟨p1, p2, _, B, p3, p4⟩ := hp
  obtain ⟨s1, s2, s3⟩ := hs
  exact ⟨by omega, p2, s3, B, p3.frame fun x hx => s2 x (fun he => by have := p4 x hx; omega), p4⟩
theorem PlI.app {h0 h' : H} {b K by_ : Nat} {c : Option (List UInt8)} {v : AV} {s : Str} {x : Int} {ch : UInt8} {pm : Nat → Prop} {Q : AV → H → Prop} (hp : PlI h0 h' b c K v s) (hpm : ∀ x, h0.length ≤ x → pm x) (hx : x = (ch.toNat : Int)) (hb : (s.length + 1) * by_ ≤ 140737488355328)
    (hQ : ∀ v' h'', PlI h0 h'' b c K v' (s ++ [ch]) → Q v' h'') : apA pm (h' ++ [some (.cells [.int .u8 x])]) Q 1 by_ (some ([.int .u8 x], 1)) v := by
  obtain ⟨p1, p2, p3, B, p4, p5⟩ := hp
  have p6 := p4.frame (h' := h' ++ [some (.cells [.int .u8 x])]) fun y hy => List.getElem?_append_left (p4.lt y hy)
  refine p6.app (fun y hy => hpm y (p5 y hy)) rfl (by decide) hb (fun v' h'' B' q1 q2 q3 q4 => hQ v' h'' ⟨?_, p2, p3.frame ?_, B', ?_, fun y hy => ?_⟩)
  · simp at q2
    omega
  · rw [q3 b (by simp; omega) (fun hy => by have := p5 b hy; omega), List.getElem?_append_left p3.lt]
  · have e1 : u8s (s ++ [ch]) = u8s s ++ [.int .u8 x] := by simp [u8s, hx]
    rw [e1]
    simpa using q1
  · rcases q4 y hy with h5 | h5
    · exact p5 y h5
    · simp at h5
      omega
theorem PlI.more {h0 h' l : H} {b K : Nat} {c : Option (List UInt8)} {v : AV} {s : Str} (hp : PlI h0 h' b c K v s) : PlI h0 (h' ++ l) b c K v s := by
  obtain ⟨p1, p2, p3, B, p4, p5⟩ := hp
  exact ⟨by simp; omega, p2, p3.frame (List.getElem?_append_left p3.lt), B, p4.frame fun x hx => List.getElem?_append_left (p4.lt x hx), p5⟩
theorem PlI.monoK {h0 h' : H} {b K K' : Nat} {c : Option (List UInt8)} {v : AV} {s : Str} (hp : PlI h0 h' b c K v s) (hk : K ≤ K') : PlI h0 h' b c K' v s := by
  obtain ⟨p1, p2, p3, p4⟩ := hp
  exact ⟨p1, p2, p3.mono hk, p4⟩
theorem PlI.lenA {h0 h' : H} {b K : Nat} {c : Option (List UInt8)} {v : AV} {s : Str} (hp : PlI h0 h' b c K v s) : lenA v = some (.int .i64 s.length) := by
  obtain ⟨p1, p2, p3, B, ⟨_, p4⟩, p5⟩ := hp
  rcases p4 with ⟨rfl, h0, _⟩ | ⟨b, rfl, _, _⟩
  · rw [h0]; rfl
  · rfl
theorem PlI.cbs {h0 h' : H} {b K : Nat} {c : Option (List UInt8)} {v : AV} {s : Str} (hp : PlI h0 h' b c K v s) : cbsA h' v = some (.str s) := by
  obtain ⟨p1, p2, p3, B, p4, p5⟩ := hp
  exact cbs_S1 p4
theorem over4 (x0 x1 x2 x3 y : AV) : over [x0, x1, x2, x3] 0 [y] = [y, x1, x2, x3] ∧ over [x0, x1, x2, x3] 1 [y] = [x0, y, x2, x3] ∧ over [x0, x1, x2, x3] 2 [y] = [x0, x1, y, x3] ∧ over [x0, x1, x2, x3] 3 [y] = [x0, x1, x2, y] := ⟨rfl, rfl, rfl, rfl⟩

theorem c_laws_big (a b : Option (List UInt8)) (ha : (lU a).length ≤ 9223372036854775807) : Fn Tryd.prog 13 [eU a, eU b] (· = .bool (decide (1048576 < ((lU a).length : Int)) || decide (1048576 - ((lU a).length : Int) < ((lU b).length : Int)))) := by
  refine Fn.of free_bool fun h => ?_
  refine enter (by kernel_rfl) e13 (by kernel_rfl) rfl fun hok => ?_
  simp only [r13, initEnv_2]
  by_cases h1 : 1048576 < ((lU a).length : Int)
  · (try (simp (disch := first | omega | (simp <;> omega) | fail) only [push_cast, ↓reduceIte, Nat.reduceEqDiff, Nat.reduceAdd, Nat.reduceMul, Nat.reduceSub, Nat.reduceLT, Int.reduceToNat, h1]))
    all_goals (try simp [h1])
  · (try (simp (disch := first | omega | (simp <;> omega) | fail) only [push_cast, ↓reduceIte, Nat.reduceEqDiff, Nat.reduceAdd, Nat.reduceMul, Nat.reduceSub, Nat.reduceLT, Int.reduceToNat, h1]))
    (first | refine goC_split (fun hc => ?_) (fun hc => ?_) | refine cnd_split (fun hc => ?_) (fun hc => ?_)) <;> ((try (simp (disch := first | omega | (simp <;> omega) | fail) only [push_cast, ↓reduceIte, Nat.reduceEqDiff, Nat.reduceAdd, Nat.reduceMul, Nat.reduceSub, Nat.reduceLT, Int.reduceToNat]))) <;> (try rw [hc])

theorem c_spec_l1Cur_next (b : Nat) (c : Option (List UInt8)) (K : Nat) (h : H) (hc : CurI h b c K) (hK : K ≤ 1000000000) :
    Call Tryd.prog 78 [.adr b 0] h (fun b' => b' = b) (fun x h' => (∃ n : Int, x = .int .i64 n ∧ 0 ≤ n ∧ n ≤ 255) ∧ CurS h h' b c (K + 1)) := by
  refine enter (by kernel_rfl) e78 (by kernel_rfl) rfl fun hok => ?_
  simp only [r78, initEnv_1]
  obtain ⟨a, sd, hcs, ha⟩ := hc
  have hlt := cells_lt hcs
  have hpm : (b = b) = True := by simp
  have hw1 := fun cs => cells_wr hlt cs
  have hw2 := fun cs cs' => wr_wr (h := h) (b := b) cs cs'
  have fin : ∀ (sd' : Int), CurS h (wr h b [eU c, .int .i64 ((a : Int) + 1), .int .u64 sd']) b c (K + 1) := fun sd' => by
    refine ⟨by simp [wr], fun b' hb' => ?_, a + 1, sd', ?_, by omega⟩
    · unfold wr
      rw [List.getElem?_set_ne (Ne.symm hb')]
    · rw [cells_wr hlt]
      simp
  by_cases hlt2 : a < (lU c).length
  · have hcb : ((lU c).getD a 0).toNat < 256 := UInt8.toNat_lt _
    (try (simp (disch := first | omega | (simp <;> omega) | fail) only [push_cast, ↓reduceIte, Nat.reduceEqDiff, Nat.reduceAdd, Nat.reduceMul, Nat.reduceSub, Nat.reduceLT, Int.reduceToNat, hcs, hpm, hw1, hw2]))
    all_goals (try exact ⟨⟨_, rfl, by omega, by omega⟩, fin _⟩)
  · (try (simp (disch := first | omega | (simp <;> omega) | fail) only [push_cast, ↓reduceIte, Nat.reduceEqDiff, Nat.reduceAdd, Nat.reduceMul, Nat.reduceSub, Nat.reduceLT, Int.reduceToNat, hcs, hpm, hw1, hw2, wrap_and255]))
    all_goals (try exact ⟨⟨_, rfl, (and255 _).1, (and255 _).2⟩, fin _⟩)

theorem c_spec_l1Cur_pick (b : Nat) (c : Option (List UInt8)) (K : Nat) (h : H) (n : Int) (hc : CurI h b c K) (hK : K ≤ 1000000000) (hn : 1 < n) (hn2 : n ≤ 200) :
    Call Tryd.prog 52 [.adr b 0, .int .i64 n] h (fun b' => b' = b) (fun x h' => (∃ m : Int, x = .int .i64 m ∧ 0 ≤ m ∧ m < n) ∧ CurS h h' b c (K + 1)) := by
  refine enter (by kernel_rfl) e52 (by kernel_rfl) rfl fun hok => ?_
  simp only [r52, initEnv_2]
  (try (simp (disch := first | omega | (simp <;> omega) | fail) only [push_cast, ↓reduceIte, Nat.reduceEqDiff, Nat.reduceAdd, Nat.reduceMul, Nat.reduceSub, Nat.reduceLT, Int.reduceToNat]))
  refine (c_spec_l1Cur_next b c K h hc hK).mono (fun x h' hx => ?_) (fun b' _ hb' => Or.inl hb')
  obtain ⟨⟨m, rfl, m0, m1⟩, hs⟩ := hx
  have h1 := Int.emod_nonneg m (show n ≠ 0 by omega)
  have h2 := Int.emod_lt_of_pos m (show 0 < n by omega)
  (try (simp (disch := first | omega | (simp <;> omega) | fail) only [push_cast, ↓reduceIte, Nat.reduceEqDiff, Nat.reduceAdd, Nat.reduceMul, Nat.reduceSub, Nat.reduceLT, Int.reduceToNat]))
  all_goals (try exact ⟨⟨_, rfl, h1, h2⟩, hs⟩)

theorem c_spec_l1Cur_one (b : Nat) (c : Option (List UInt8)) (K : Nat) (h : H) (n : Int) (hc : CurI h b c K) (hK : K ≤ 1000000000) (hn : 1 < n) (hn2 : n ≤ 200) :
    Call Tryd.prog 53 [.adr b 0, .int .i64 n] h (fun b' => b' = b) (fun x h' => (∃ t : Bool, x = .bool t) ∧ CurS h h' b c (K + 1)) := by
  refine enter (by kernel_rfl) e53 (by kernel_rfl) rfl fun hok => ?_
  simp only [r53, initEnv_2]
  (try (simp (disch := first | omega | (simp <;> omega) | fail) only [push_cast, ↓reduceIte, Nat.reduceEqDiff, Nat.reduceAdd, Nat.reduceMul, Nat.reduceSub, Nat.reduceLT, Int.reduceToNat]))
  refine (c_spec_l1Cur_pick b c K h n hc hK hn hn2).mono (fun x h' hx => ?_) (fun b' _ hb' => Or.inl hb')
  obtain ⟨⟨m, rfl, m0, m1⟩, hs⟩ := hx
  by_cases hz : m = 0
  · (try (simp (disch := first | omega | (simp <;> omega) | fail) only [push_cast, ↓reduceIte, Nat.reduceEqDiff, Nat.reduceAdd, Nat.reduceMul, Nat.reduceSub, Nat.reduceLT, Int.reduceToNat, hz]))
    all_goals (try exact ⟨⟨_, rfl⟩, hs⟩)
  · (try (simp (disch := first | omega | (simp <;> omega) | fail) only [push_cast, ↓reduceIte, Nat.reduceEqDiff, Nat.reduceAdd, Nat.reduceMul, Nat.reduceSub, Nat.reduceLT, Int.reduceToNat, hz]))
    all_goals (try exact ⟨⟨_, rfl⟩, hs⟩)

theorem c_spec_l1Cur_among (b : Nat) (c : Option (List UInt8)) (K : Nat) (h : H) (b2 : Nat) (L : List Int) (hc : CurI h b c K) (hK : K ≤ 1000000000) (hL : 1 < L.length) (hL2 : L.length ≤ 200) (hb2 : h.cells b2 = some (L.map (.int .i64))) (hne : b2 ≠ b) :
    Call Tryd.prog 54 [.adr b 0, .sl b2 0 1 L.length L.length] h (fun b' => b' = b) (fun x h' => (∃ m : Int, x = .int .i64 m ∧ m ∈ L) ∧ CurS h h' b c (K + 1)) := by
  refine enter (by kernel_rfl) e54 (by kernel_rfl) rfl fun hok => ?_
  simp only [r54, initEnv_2]
  (try (simp (disch := first | omega | (simp <;> omega) | fail) only [push_cast, ↓reduceIte, Nat.reduceEqDiff, Nat.reduceAdd, Nat.reduceMul, Nat.reduceSub, Nat.reduceLT, Int.reduceToNat]))
  refine (c_spec_l1Cur_pick b c K h L.length hc hK (by omega) (by omega)).mono (fun x h' hx => ?_) (fun b' _ hb' => Or.inl hb')
  obtain ⟨⟨m, rfl, m0, m1⟩, hs⟩ := hx
  have hb3 : h'.cells b2 = some (L.map (.int .i64)) := by
    rw [cells_eq, hs.2.1 b2 hne, ← cells_eq]
    exact hb2
  have hmem : L.getD m.toNat 0 ∈ L := by
    have : m.toNat < L.length := by omega
    simp [this]
  (try (simp (disch := first | omega | (simp <;> omega) | fail) only [push_cast, ↓reduceIte, Nat.reduceEqDiff, Nat.reduceAdd, Nat.reduceMul, Nat.reduceSub, Nat.reduceLT, Int.reduceToNat, hb3]))
  all_goals (try exact ⟨⟨_, rfl, hmem⟩, hs⟩)

theorem c_spec_l1Cur_plain (b : Nat) (c : Option (List UInt8)) (h : H) (hcu : CurI h b c 0) :
    Call Tryd.prog 35 [.adr b 0] h (fun b' => b' = b) (fun x h' => ∃ s : Str, x = .str s ∧ s.length ≤ 8000) := by
  refine enter (by kernel_rfl) e35 (by kernel_rfl) rfl fun hok => ?_
  simp only [r35, initEnv_1]
  have hbl := hcu.lt
  (try (simp (disch := first | omega | (simp <;> omega) | fail) only [push_cast, ↓reduceIte, Nat.reduceEqDiff, Nat.reduceAdd, Nat.reduceMul, Nat.reduceSub, Nat.reduceLT, Int.reduceToNat]))
  refine (c_spec_l1Cur_pick b c 0 h 12 hcu (by omega) (by omega) (by omega)).mono (fun x h' hx => ?_) (fun b' _ hb' => Or.inl hb')
  obtain ⟨⟨m, rfl, m0, m1⟩, hs⟩ := hx
  have hp0 : PlI h h' b c 1 .nils [] := ⟨by have := hs.1; omega, hbl, hs.2.2, [], S1.nil, by simp⟩
  (try (simp (disch := first | omega | (simp <;> omega) | fail) only [push_cast, ↓reduceIte, Nat.reduceEqDiff, Nat.reduceAdd, Nat.reduceMul, Nat.reduceSub, Nat.reduceLT, Int.reduceToNat]))
  refine T_for 12 (fun i e h2 => ∃ v s, Pins e [(0, .adr b 0), (3, v), (4, .int .i64 (m - i))] ∧ PlI h h2 b c (1 + i) v s ∧ s.length = i ∧ (i : Int) ≤ m) ?_ ?_
  · refine ⟨.nils, [], ?_, hp0, rfl, by simpa using m0⟩
    (try (simp (disch := first | omega | (simp <;> omega) | fail) only [push_cast, ↓reduceIte, Nat.reduceEqDiff, Nat.reduceAdd, Nat.reduceMul, Nat.reduceSub, Nat.reduceLT, Int.reduceToNat]))
    all_goals (try simp)
  rintro i e h2 hi ⟨v, s, hp, hpl, hsl, him⟩
  refine T_pins hp fun e => ?_
  (try (simp (disch := first | omega | (simp <;> omega) | fail) only [push_cast, ↓reduceIte, Nat.reduceEqDiff, Nat.reduceAdd, Nat.reduceMul, Nat.reduceSub, Nat.reduceLT, Int.reduceToNat]))
  first | refine goC_split (fun hc => ?_) (fun hc => ?_) | refine cnd_split (fun hc => ?_) (fun hc => ?_)
  · (try (simp only [decide_eq_true_eq, decide_eq_false_iff_not, Bool.not_eq_true', Bool.not_eq_false', Bool.and_eq_true, Bool.or_eq_true, Int.not_lt, Int.not_le] at hc)); (try (simp (disch := first | omega | (simp <;> omega) | fail) only [push_cast, ↓reduceIte, Nat.reduceEqDiff, Nat.reduceAdd, Nat.reduceMul, Nat.reduceSub, Nat.reduceLT, Int.reduceToNat]))
    refine (c_spec_l1Cur_pick b c (1 + i) h2 8 hpl.2.2.1 (by omega) (by omega) (by omega)).mono (fun x h3 hx => ?_) (fun b' _ hb' => Or.inl hb')
    obtain ⟨⟨k, rfl, k0, k1⟩, hs3⟩ := hx
    have hpl3 := hpl.step hs3
    (try (simp (disch := first | omega | (simp <;> omega) | fail) only [push_cast, ↓reduceIte, Nat.reduceEqDiff, Nat.reduceAdd, Nat.reduceMul, Nat.reduceSub, Nat.reduceLT, Int.reduceToNat]))
    refine PlI.app hpl3 (pm := fun b' => b' = b ∨ h.length ≤ b') (ch := ([97, 98, 35, 32, 48, 49, 57, 125] : List UInt8).getD k.toNat 0) (fun y hy => Or.inr hy) rfl (by omega) fun v' h4 hpl4 => ?_
    (try (simp (disch := first | omega | (simp <;> omega) | fail) only [push_cast, ↓reduceIte, Nat.reduceEqDiff, Nat.reduceAdd, Nat.reduceMul, Nat.reduceSub, Nat.reduceLT, Int.reduceToNat]))
    refine ⟨_, _, rfl, hpl4, ?_⟩
    simp
    try omega
  · (try (simp only [decide_eq_true_eq, decide_eq_false_iff_not, Bool.not_eq_true', Bool.not_eq_false', Bool.and_eq_true, Bool.or_eq_true, Int.not_lt, Int.not_le] at hc)); (try (simp (disch := first | omega | (simp <;> omega) | fail) only [push_cast, ↓reduceIte, Nat.reduceEqDiff, Nat.reduceAdd, Nat.reduceMul, Nat.reduceSub, Nat.reduceLT, Int.reduceToNat]))
    refine (c_spec_l1Cur_one b c (1 + i) h2 14 hpl.2.2.1 (by omega) (by omega) (by omega)).mono (fun x h3 hx => ?_) (fun b' _ hb' => Or.inl hb')
    obtain ⟨⟨t, rfl⟩, hs3⟩ := hx
    have hpl3 := hpl.step hs3
    cases t
    · (try (simp (disch := first | omega | (simp <;> omega) | fail) only [push_cast, ↓reduceIte, Nat.reduceEqDiff, Nat.reduceAdd, Nat.reduceMul, Nat.reduceSub, Nat.reduceLT, Int.reduceToNat]))
      refine (c_spec_l1Cur_one b c (1 + i + 1) h3 12 hpl3.2.2.1 (by omega) (by omega) (by omega)).mono (fun x h5 hx => ?_) (fun b' _ hb' => Or.inl hb')
      obtain ⟨⟨t2, rfl⟩, hs5⟩ := hx
      have hpl5 := hpl3.step hs5
      cases t2
      · have hcb := hpl5.cbs
        (try (simp (disch := first | omega | (simp <;> omega) | fail) only [push_cast, ↓reduceIte, Nat.reduceEqDiff, Nat.reduceAdd, Nat.reduceMul, Nat.reduceSub, Nat.reduceLT, Int.reduceToNat, hcb]))
        all_goals (try exact ⟨_, rfl, by omega⟩)
      · have hrep : List.replicate 4 (AV.int .i64 0) = [.int .i64 0, .int .i64 0, .int .i64 0, .int .i64 0] := rfl
        have ov0 := fun x0 x1 x2 x3 y => (over4 x0 x1 x2 x3 y).1
        have ov1 := fun x0 x1 x2 x3 y => (over4 x0 x1 x2 x3 y).2.1
        have ov2 := fun x0 x1 x2 x3 y => (over4 x0 x1 x2 x3 y).2.2.1
        have ov3 := fun x0 x1 x2 x3 y => (over4 x0 x1 x2 x3 y).2.2.2
        (try (simp (disch := first | omega | (simp <;> omega) | fail) only [push_cast, ↓reduceIte, Nat.reduceEqDiff, Nat.reduceAdd, Nat.reduceMul, Nat.reduceSub, Nat.reduceLT, Int.reduceToNat, hrep, ov0, ov1, ov2, ov3]))
        have hpl6 := hpl5.more (l := [some (AObj.cells (([10, 31, 126, 200] : List Int).map (.int .i64)))])
        refine (c_spec_l1Cur_among b c ((1 + i + 1) + 1) (h5 ++ [some (AObj.cells (([10, 31, 126, 200] : List Int).map (.int .i64)))]) h5.length [10, 31, 126, 200] hpl6.2.2.1 (by omega) (by decide) (by decide) (by rw [cells_h0]; rfl) (fun he => by
          have h7 := hpl5.2.2.1.lt
          omega)).mono (fun x h7 hx => ?_) (fun b' _ hb' => Or.inl hb')
        obtain ⟨⟨k, rfl, hk⟩, hs7⟩ := hx
        have hpl7 := hpl6.step hs7
        have hkb : 0 ≤ k ∧ k ≤ 255 := by
          simp at hk
          omega
        (try (simp (disch := first | omega | (simp <;> omega) | fail) only [push_cast, ↓reduceIte, Nat.reduceEqDiff, Nat.reduceAdd, Nat.reduceMul, Nat.reduceSub, Nat.reduceLT, Int.reduceToNat]))
        refine PlI.app hpl7 (pm := fun b' => b' = b ∨ h.length ≤ b') (ch := UInt8.ofNat k.toNat) (fun y hy => Or.inr hy) (by simp; omega) (by omega) fun v8 h8 hpl8 => ?_
        have hcb := hpl8.cbs
        (try (simp (disch := first | omega | (simp <;> omega) | fail) only [push_cast, ↓reduceIte, Nat.reduceEqDiff, Nat.reduceAdd, Nat.reduceMul, Nat.reduceSub, Nat.reduceLT, Int.reduceToNat, hcb]))
        all_goals (try exact ⟨_, rfl, by simp; omega⟩)
    · (try (simp (disch := first | omega | (simp <;> omega) | fail) only [push_cast, ↓reduceIte, Nat.reduceEqDiff, Nat.reduceAdd, Nat.reduceMul, Nat.reduceSub, Nat.reduceLT, Int.reduceToNat]))
      refine T_for 7000 (fun j e h4 => ∃ v4 s4, Pins e [(0, .adr b 0), (3, v4)] ∧ PlI h h4 b c (20 + j) v4 s4 ∧ s4.length = s.length + j) ?_ ?_
      · refine ⟨v, s, ?_, hpl3.monoK (by omega), by omega⟩
        (try (simp (disch := first | omega | (simp <;> omega) | fail) only [push_cast, ↓reduceIte, Nat.reduceEqDiff, Nat.reduceAdd, Nat.reduceMul, Nat.reduceSub, Nat.reduceLT, Int.reduceToNat]))
      rintro j e h4 hj ⟨v4, s4, hp4, hpl4, hsl4⟩
      refine T_pins hp4 fun e => ?_
      have hlv := hpl4.lenA
      (try (simp (disch := first | omega | (simp <;> omega) | fail) only [push_cast, ↓reduceIte, Nat.reduceEqDiff, Nat.reduceAdd, Nat.reduceMul, Nat.reduceSub, Nat.reduceLT, Int.reduceToNat, hlv]))
      refine (c_spec_l1Cur_pick b c (20 + j) h4 2 hpl4.2.2.1 (by omega) (by omega) (by omega)).mono (fun x h9 hx => ?_) (fun b' _ hb' => Or.inl hb')
      obtain ⟨⟨k9, rfl, k90, k91⟩, hs9⟩ := hx
      have hpl9 := hpl4.step hs9
      (try (simp (disch := first | omega | (simp <;> omega) | fail) only [push_cast, ↓reduceIte, Nat.reduceEqDiff, Nat.reduceAdd, Nat.reduceMul, Nat.reduceSub, Nat.reduceLT, Int.reduceToNat, hlv]))
      first | refine goC_split (fun hd => ?_) (fun hd => ?_) | refine cnd_split (fun hd => ?_) (fun hd => ?_)
      · (try (simp only [decide_eq_true_eq, decide_eq_false_iff_not, Bool.not_eq_true', Bool.not_eq_false', Bool.and_eq_true, Bool.or_eq_true, Int.not_lt, Int.not_le] at hd)); (try (simp (disch := first | omega | (simp <;> omega) | fail) only [push_cast, ↓reduceIte, Nat.reduceEqDiff, Nat.reduceAdd, Nat.reduceMul, Nat.reduceSub, Nat.reduceLT, Int.reduceToNat]))
        refine PlI.app hpl9 (pm := fun b' => b' = b ∨ h.length ≤ b') (ch := 125) (fun y hy => Or.inr hy) rfl (by omega) fun v' h4 hpl4 => ?_
        (try (simp (disch := first | omega | (simp <;> omega) | fail) only [push_cast, ↓reduceIte, Nat.reduceEqDiff, Nat.reduceAdd, Nat.reduceMul, Nat.reduceSub, Nat.reduceLT, Int.reduceToNat]))
        refine ⟨_, _, rfl, hpl4, ?_⟩
        simp
        omega
      · (try (simp only [decide_eq_true_eq, decide_eq_false_iff_not, Bool.not_eq_true', Bool.not_eq_false', Bool.and_eq_true, Bool.or_eq_true, Int.not_lt, Int.not_le] at hd)); (try (simp (disch := first | omega | (simp <;> omega) | fail) only [push_cast, ↓reduceIte, Nat.reduceEqDiff, Nat.reduceAdd, Nat.reduceMul, Nat.reduceSub, Nat.reduceLT, Int.reduceToNat]))
        refine (c_spec_l1Cur_one b c (20 + j + 1) h9 12 hpl9.2.2.1 (by omega) (by omega) (by omega)).mono (fun x h5 hx => ?_) (fun b' _ hb' => Or.inl hb')
        obtain ⟨⟨t2, rfl⟩, hs5⟩ := hx
        have hpl5 := hpl9.step hs5
        cases t2
        · have hcb := hpl5.cbs
          (try (simp (disch := first | omega | (simp <;> omega) | fail) only [push_cast, ↓reduceIte, Nat.reduceEqDiff, Nat.reduceAdd, Nat.reduceMul, Nat.reduceSub, Nat.reduceLT, Int.reduceToNat, hcb]))
          all_goals (try exact ⟨_, rfl, by omega⟩)
        · have hrep : List.replicate 4 (AV.int .i64 0) = [.int .i64 0, .int .i64 0, .int .i64 0, .int .i64 0] := rfl
          have ov0 := fun x0 x1 x2 x3 y => (over4 x0 x1 x2 x3 y).1
          have ov1 := fun x0 x1 x2 x3 y => (over4 x0 x1 x2 x3 y).2.1
          have ov2 := fun x0 x1 x2 x3 y => (over4 x0 x1 x2 x3 y).2.2.1
          have ov3 := fun x0 x1 x2 x3 y => (over4 x0 x1 x2 x3 y).2.2.2
          (try (simp (disch := first | omega | (simp <;> omega) | fail) only [push_cast, ↓reduceIte, Nat.reduceEqDiff, Nat.reduceAdd, Nat.reduceMul, Nat.reduceSub, Nat.reduceLT, Int.reduceToNat, hrep, ov0, ov1, ov2, ov3]))
          have hpl6 := hpl5.more (l := [some (AObj.cells (([10, 31, 126, 200] : List Int).map (.int .i64)))])
          refine (c_spec_l1Cur_among b c ((20 + j + 1) + 1) (h5 ++ [some (AObj.cells (([10, 31, 126, 200] : List Int).map (.int .i64)))]) h5.length [10, 31, 126, 200] hpl6.2.2.1 (by omega) (by decide) (by decide) (by rw [cells_h0]; rfl) (fun he => by
            have h7 := hpl5.2.2.1.lt
            omega)).mono (fun x h7 hx => ?_) (fun b' _ hb' => Or.inl hb')
          obtain ⟨⟨k, rfl, hk⟩, hs7⟩ := hx
          have hpl7 := hpl6.step hs7
          have hkb : 0 ≤ k ∧ k ≤ 255 := by
            simp at hk
            omega
          (try (simp (disch := first | omega | (simp <;> omega) | fail) only [push_cast, ↓reduceIte, Nat.reduceEqDiff, Nat.reduceAdd, Nat.reduceMul, Nat.reduceSub, Nat.reduceLT, Int.reduceToNat]))
          refine PlI.app hpl7 (pm := fun b' => b' = b ∨ h.length ≤ b') (ch := UInt8.ofNat k.toNat) (fun y hy => Or.inr hy) (by simp; omega) (by omega) fun v8 h8 hpl8 => ?_
          have hcb := hpl8.cbs
          (try (simp (disch := first | omega | (simp <;> omega) | fail) only [push_cast, ↓reduceIte, Nat.reduceEqDiff, Nat.reduceAdd, Nat.reduceMul, Nat.reduceSub, Nat.reduceLT, Int.reduceToNat, hcb]))
          all_goals (try exact ⟨_, rfl, by simp; omega⟩)

theorem c_spec_DrawSealText (c : Option (List UInt8)) : Fn Tryd.prog 14 [eU c] (fun x => ∃ s : Str, x = .str s ∧ s.length ≤ 8000) := by
  intro h
  refine Call.gc (Call.mono (?_ : Call Tryd.prog 14 [eU c] h Nowhere (fun x _ => ∃ s : Str, x = .str s ∧ s.length ≤ 8000)) (fun x _ ⟨s, hs, hx⟩ => ⟨⟨s, hs, hx⟩, by rw [hs]; exact free_str⟩) (fun _ _ h => h))
  refine enter (by kernel_rfl) e14 (by kernel_rfl) rfl fun hok => ?_
  simp only [r14, initEnv_1]
  have hfb : fillA [.nils, .int .i64 0, .int .u64 0] [(0, 1, eU c)] = some [eU c, .int .i64 0, .int .u64 0] := by cases c <;> rfl
  (try (simp (disch := first | omega | (simp <;> omega) | fail) only [push_cast, ↓reduceIte, Nat.reduceEqDiff, Nat.reduceAdd, Nat.reduceMul, Nat.reduceSub, Nat.reduceLT, Int.reduceToNat, hfb]))
  refine (c_spec_l1Cur_plain h.length c (h ++ [some (.cells [eU c, .int .i64 0, .int .u64 0])]) ⟨0, 0, by rw [cells_h0]; rfl, Nat.le_refl _⟩).mono (fun x h' hx => ?_) (fun b' _ hb' => Or.inr (Nat.le_of_eq hb'.symm))
  obtain ⟨s, rfl, hs⟩ := hx
  (try (simp (disch := first | omega | (simp <;> omega) | fail) only [push_cast, ↓reduceIte, Nat.reduceEqDiff, Nat.reduceAdd, Nat.reduceMul, Nat.reduceSub, Nat.reduceLT, Int.reduceToNat]))
  all_goals (try exact ⟨_, rfl, hs⟩)

theorem c_strconv_Itoa (n : Int) (h0 : -9223372036854775808 ≤ n) (h1 : n ≤ 9223372036854775807) : Fn Tryd.prog 32 [.int .i64 n] (· = .str (Lib.itoa n)) :=
  Fn.ofGrow (canEnter_of Tryd.func32 (by kernel_rfl) (by kernel_rfl)) fun S w μ cargs hg ha => by
    obtain ⟨v, rfl, hv⟩ := ar_1 ha
    rw [hv.int_]
    refine ⟨.string ⟨(Lib.itoa n).toArray⟩, fun S w μ => .str _ (by
      have := Lib.itoa_length_le n h0 h1
      omega), Tryd.strconv_Itoa n h0 h1 w (gl_tab hg (List.mem_singleton.2 rfl) (by kernel_rfl))⟩

theorem c_impl_SealText (s : Str) (hl : s.length ≤ 1000000000) : Fn Tryd.prog 10 [.str s] (· = sealV s) := by
  refine Fn.of free_sealV fun h => ?_
  refine enter (by kernel_rfl) e10 (by kernel_rfl) rfl fun hok => ?_
  simp only [r10, initEnv_1]
  (try (simp (disch := first | omega | (simp <;> omega) | fail) only [push_cast, ↓reduceIte, Nat.reduceEqDiff, Nat.reduceAdd, Nat.reduceMul, Nat.reduceSub, Nat.reduceLT, Int.reduceToNat]))
  refine T_for s.length (fun i e h' => Pins e [(0, .str s), (4, .int .i64 (chk s i)), (7, .int .i64 s.length), (8, .int .i64 i)] ∧ h' = h ∧ plain (s.take i) = true) ?_ ?_
  · (try (simp (disch := first | omega | (simp <;> omega) | fail) only [push_cast, ↓reduceIte, Nat.reduceEqDiff, Nat.reduceAdd, Nat.reduceMul, Nat.reduceSub, Nat.reduceLT, Int.reduceToNat]))
    all_goals (try exact ⟨rfl, rfl⟩)
    all_goals (try rfl)
  rintro i e h' hi ⟨hp, rfl, ha⟩
  refine T_pins hp fun e => ?_
  obtain ⟨k0, k1⟩ := chk_bd s i
  (try (simp (disch := first | omega | (simp <;> omega) | fail) only [push_cast, ↓reduceIte, Nat.reduceEqDiff, Nat.reduceAdd, Nat.reduceMul, Nat.reduceSub, Nat.reduceLT, Int.reduceToNat]))
  first | refine goC_split (fun hc => ?_) (fun hc => ?_) | refine cnd_split (fun hc => ?_) (fun hc => ?_)
  · (try (simp only [decide_eq_true_eq, decide_eq_false_iff_not, Bool.not_eq_true', Bool.not_eq_false', Bool.and_eq_true, Bool.or_eq_true, Int.not_lt, Int.not_le] at hc)); (try (simp (disch := first | omega | (simp <;> omega) | fail) only [push_cast, ↓reduceIte, Nat.reduceEqDiff, Nat.reduceAdd, Nat.reduceMul, Nat.reduceSub, Nat.reduceLT, Int.reduceToNat]))
    have hi2 : i < s.length := by omega
    have hpt := plain_take hi2
    have hcb : (s.getD i 0).toNat < 256 := UInt8.toNat_lt _
    have hm := mul_bd (x := (i : Int) + 1) (y := ((s.getD i 0).toNat : Int)) (a := 1000000001) (b := 255) (by omega) (by omega) (by omega) (by omega)
    have hs : chk s (i + 1) = (chk s i + ((i : Int) + 1) * ((s.getD i 0).toNat : Int)) % 65521 := rfl
    cases hk : okCh (s.getD i 0)
    · have hno := plain_no hi2 hk
      unfold sealV plainV
      rw [hno]
      simp only [okCh, Bool.and_eq_false_iff, decide_eq_false_iff_not] at hk
      by_cases h32 : ((s.getD i 0).toNat : Int) < 32
      · (try (simp (disch := first | omega | (simp <;> omega) | fail) only [push_cast, ↓reduceIte, Nat.reduceEqDiff, Nat.reduceAdd, Nat.reduceMul, Nat.reduceSub, Nat.reduceLT, Int.reduceToNat]))
        all_goals (try rfl)
      · have h125 : 125 < ((s.getD i 0).toNat : Int) := by omega
        (try (simp (disch := first | omega | (simp <;> omega) | fail) only [push_cast, ↓reduceIte, Nat.reduceEqDiff, Nat.reduceAdd, Nat.reduceMul, Nat.reduceSub, Nat.reduceLT, Int.reduceToNat]))
        all_goals (try rfl)
    · have hk2 := hk
      simp only [okCh, Bool.and_eq_true, decide_eq_true_eq] at hk2
      obtain ⟨hk3, hk4⟩ := hk2
      have hpt2 : plain (s.take (i + 1)) = true := by rw [hpt, ha, hk]; rfl
      (try (simp (disch := first | omega | (simp <;> omega) | fail) only [push_cast, ↓reduceIte, Nat.reduceEqDiff, Nat.reduceAdd, Nat.reduceMul, Nat.reduceSub, Nat.reduceLT, Int.reduceToNat, hpt2]))
      all_goals (try (rw [hs]))
  · (try (simp only [decide_eq_true_eq, decide_eq_false_iff_not, Bool.not_eq_true', Bool.not_eq_false', Bool.and_eq_true, Bool.or_eq_true, Int.not_lt, Int.not_le] at hc)); (try (simp (disch := first | omega | (simp <;> omega) | fail) only [push_cast, ↓reduceIte, Nat.reduceEqDiff, Nat.reduceAdd, Nat.reduceMul, Nat.reduceSub, Nat.reduceLT, Int.reduceToNat]))
    have hie : i = s.length := by omega
    subst hie
    rw [List.take_length] at ha
    unfold sealV plainV
    rw [ha]
    obtain ⟨n, hn⟩ : ∃ n : Nat, chk s s.length = (n : Int) := ⟨_, (Int.toNat_of_nonneg k0).symm⟩
    have hdl := dec_len (n := n) (by omega)
    have hst : sealT s = s ++ 126 :: Lib.decDigits n := by
      unfold sealT
      rw [hn, Int.toNat_natCast]
    have hit : Lib.itoa (n : Int) = Lib.decDigits n := by rw [itoa_nn (by omega), Int.toNat_natCast]
    rw [hn]
    by_cases h6 : 6000 < s.length
    · (try (simp (disch := first | omega | (simp <;> omega) | fail) only [push_cast, ↓reduceIte, Nat.reduceEqDiff, Nat.reduceAdd, Nat.reduceMul, Nat.reduceSub, Nat.reduceLT, Int.reduceToNat]))
      all_goals (try rfl)
    · (try (simp (disch := first | omega | (simp <;> omega) | fail) only [push_cast, ↓reduceIte, Nat.reduceEqDiff, Nat.reduceAdd, Nat.reduceMul, Nat.reduceSub, Nat.reduceLT, Int.reduceToNat]))
      refine (c_strconv_Itoa n (by omega) (by omega)).call ?_
      rw [hit]
      (try (simp (disch := first | omega | (simp <;> omega) | fail) only [push_cast, ↓reduceIte, Nat.reduceEqDiff, Nat.reduceAdd, Nat.reduceMul, Nat.reduceSub, Nat.reduceLT, Int.reduceToNat]))
      rw [hst]
      all_goals (try simp)

theorem c_spec_stPlain (s : Str) : Fn Tryd.prog 30 [.str s] (· = .bool (plainV s)) := by
  refine Fn.of free_bool fun h => ?_
  refine enter (by kernel_rfl) e30 (by kernel_rfl) rfl fun hok => ?_
  simp only [r30, initEnv_1]
  have hlen := (okV_0 hok).str
  (try (simp (disch := first | omega | (simp <;> omega) | fail) only [push_cast, ↓reduceIte, Nat.reduceEqDiff, Nat.reduceAdd, Nat.reduceMul, Nat.reduceSub, Nat.reduceLT, Int.reduceToNat]))
  refine T_for s.length (fun i e h' => Pins e [(0, .str s), (3, .int .i64 i)] ∧ h' = h ∧ plain (s.take i) = true) ?_ ?_
  · (try (simp (disch := first | omega | (simp <;> omega) | fail) only [push_cast, ↓reduceIte, Nat.reduceEqDiff, Nat.reduceAdd, Nat.reduceMul, Nat.reduceSub, Nat.reduceLT, Int.reduceToNat]))
    all_goals (try simp [plain])
  rintro i e h' hi ⟨hp, rfl, ha⟩
  refine T_pins hp fun e => ?_
  (try (simp (disch := first | omega | (simp <;> omega) | fail) only [push_cast, ↓reduceIte, Nat.reduceEqDiff, Nat.reduceAdd, Nat.reduceMul, Nat.reduceSub, Nat.reduceLT, Int.reduceToNat]))
  first | refine goC_split (fun hc => ?_) (fun hc => ?_) | refine cnd_split (fun hc => ?_) (fun hc => ?_)
  · (try (simp only [decide_eq_true_eq, decide_eq_false_iff_not, Bool.not_eq_true', Bool.not_eq_false', Bool.and_eq_true, Bool.or_eq_true, Int.not_lt, Int.not_le] at hc)); (try (simp (disch := first | omega | (simp <;> omega) | fail) only [push_cast, ↓reduceIte, Nat.reduceEqDiff, Nat.reduceAdd, Nat.reduceMul, Nat.reduceSub, Nat.reduceLT, Int.reduceToNat]))
    have hi2 : i < s.length := by omega
    have hpt := plain_take hi2
    cases hk : okCh (s.getD i 0)
    · have hno := plain_no hi2 hk
      unfold plainV
      rw [hno]
      simp only [okCh, Bool.and_eq_false_iff, decide_eq_false_iff_not] at hk
      by_cases h32 : ((s.getD i 0).toNat : Int) < 32
      · (try (simp (disch := first | omega | (simp <;> omega) | fail) only [push_cast, ↓reduceIte, Nat.reduceEqDiff, Nat.reduceAdd, Nat.reduceMul, Nat.reduceSub, Nat.reduceLT, Int.reduceToNat]))
      · have h125 : 125 < ((s.getD i 0).toNat : Int) := by omega
        (try (simp (disch := first | omega | (simp <;> omega) | fail) only [push_cast, ↓reduceIte, Nat.reduceEqDiff, Nat.reduceAdd, Nat.reduceMul, Nat.reduceSub, Nat.reduceLT, Int.reduceToNat]))
    · have hk2 := hk
      simp only [okCh, Bool.and_eq_true, decide_eq_true_eq] at hk2
      obtain ⟨hk3, hk4⟩ := hk2
      (try (simp (disch := first | omega | (simp <;> omega) | fail) only [push_cast, ↓reduceIte, Nat.reduceEqDiff, Nat.reduceAdd, Nat.reduceMul, Nat.reduceSub, Nat.reduceLT, Int.reduceToNat]))
      rw [hpt, ha, hk]
      all_goals (try rfl)
  · (try (simp only [decide_eq_true_eq, decide_eq_false_iff_not, Bool.not_eq_true', Bool.not_eq_false', Bool.and_eq_true, Bool.or_eq_true, Int.not_lt, Int.not_le] at hc)); (try (simp (disch := first | omega | (simp <;> omega) | fail) only [push_cast, ↓reduceIte, Nat.reduceEqDiff, Nat.reduceAdd, Nat.reduceMul, Nat.reduceSub, Nat.reduceLT, Int.reduceToNat]))
    have he : s.take i = s := List.take_of_length_le (by omega)
    rw [he] at ha
    unfold plainV
    rw [ha]
    (first | refine goC_split (fun hc => ?_) (fun hc => ?_) | refine cnd_split (fun hc => ?_) (fun hc => ?_)) <;> ((try (simp (disch := first | omega | (simp <;> omega) | fail) only [push_cast, ↓reduceIte, Nat.reduceEqDiff, Nat.reduceAdd, Nat.reduceMul, Nat.reduceSub, Nat.reduceLT, Int.reduceToNat]))) <;> (try rw [hc])

theorem c_spec_l1Num (n : Nat) (hn : n < 1000000000000) : Fn Tryd.prog 38 [.int .i64 n] (· = .str (Lib.decDigits n)) := by
  induction n using Nat.strongRecOn with
  | _ n ih =>
    refine Fn.of free_str fun h => ?_
    refine enter (by kernel_rfl) e38 (by kernel_rfl) rfl fun hok => ?_
    simp only [r38, initEnv_1]
    rw [dec_rec]
    (try (simp (disch := first | omega | (simp <;> omega) | fail) only [push_cast, ↓reduceIte, Nat.reduceEqDiff, Nat.reduceAdd, Nat.reduceMul, Nat.reduceSub, Nat.reduceLT, Int.reduceToNat]))
    first | refine goC_split (fun hc => ?_) (fun hc => ?_) | refine cnd_split (fun hc => ?_) (fun hc => ?_)
    · have hc2 : n < 10 := by
        simp only [decide_eq_true_eq] at hc
        omega
      have e1 : ((48 : Int) + n).toNat = 48 + n := by omega
      rw [if_pos hc2]
      (try (simp only [decide_eq_true_eq, decide_eq_false_iff_not, Bool.not_eq_true', Bool.not_eq_false', Bool.and_eq_true, Bool.or_eq_true, Int.not_lt, Int.not_le] at hc)); (try (simp (disch := first | omega | (simp <;> omega) | fail) only [push_cast, ↓reduceIte, Nat.reduceEqDiff, Nat.reduceAdd, Nat.reduceMul, Nat.reduceSub, Nat.reduceLT, Int.reduceToNat]))
      (try (simp (disch := first | omega | (simp <;> omega) | fail) only [push_cast, ↓reduceIte, Nat.reduceEqDiff, Nat.reduceAdd, Nat.reduceMul, Nat.reduceSub, Nat.reduceLT, Int.reduceToNat, e1]))
    · have hc2 : ¬ n < 10 := by
        simp only [decide_eq_false_iff_not] at hc
        omega
      have e1 : ((48 : Int) + (n : Int) % 10).toNat = 48 + n % 10 := by omega
      have e2 : ((n / 10 : Nat) : Int) = (n : Int) / 10 := by omega
      have hm : 0 ≤ (n : Int) % 10 ∧ (n : Int) % 10 ≤ 9 := by omega
      have hrec := ih (n / 10) (by omega) (by omega)
      rw [e2] at hrec
      have hdl := dec_len (n := n / 10) (by omega)
      rw [if_neg hc2]
      (try (simp only [decide_eq_true_eq, decide_eq_false_iff_not, Bool.not_eq_true', Bool.not_eq_false', Bool.and_eq_true, Bool.or_eq_true, Int.not_lt, Int.not_le] at hc)); (try (simp (disch := first | omega | (simp <;> omega) | fail) only [push_cast, ↓reduceIte, Nat.reduceEqDiff, Nat.reduceAdd, Nat.reduceMul, Nat.reduceSub, Nat.reduceLT, Int.reduceToNat]))
      refine ⟨?_, ?_⟩
      · refine hrec.call ?_
        (try (simp (disch := first | omega | (simp <;> omega) | fail) only [push_cast, ↓reduceIte, Nat.reduceEqDiff, Nat.reduceAdd, Nat.reduceMul, Nat.reduceSub, Nat.reduceLT, Int.reduceToNat, e1]))
      · (try (simp (disch := first | omega | (simp <;> omega) | fail) only [push_cast, ↓reduceIte, Nat.reduceEqDiff, Nat.reduceAdd, Nat.reduceMul, Nat.reduceSub, Nat.reduceLT, Int.reduceToNat, e1]))
        refine hrec.call ?_
        (try (simp (disch := first | omega | (simp <;> omega) | fail) only [push_cast, ↓reduceIte, Nat.reduceEqDiff, Nat.reduceAdd, Nat.reduceMul, Nat.reduceSub, Nat.reduceLT, Int.reduceToNat, e1]))

theorem c_spec_stSeal (s : Str) (hl : s.length ≤ 1000000000) : Fn Tryd.prog 31 [.str s] (· = .str (sealT s)) := by
  refine Fn.of free_str fun h => ?_
  refine enter (by kernel_rfl) e31 (by kernel_rfl) rfl fun hok => ?_
  simp only [r31, initEnv_1]
  (try (simp (disch := first | omega | (simp <;> omega) | fail) only [push_cast, ↓reduceIte, Nat.reduceEqDiff, Nat.reduceAdd, Nat.reduceMul, Nat.reduceSub, Nat.reduceLT, Int.reduceToNat]))
  refine T_for s.length (fun i e h' => Pins e [(0, .str s), (3, .int .i64 (chk s i)), (4, .int .i64 i)] ∧ h' = h) ?_ ?_
  · (try (simp (disch := first | omega | (simp <;> omega) | fail) only [push_cast, ↓reduceIte, Nat.reduceEqDiff, Nat.reduceAdd, Nat.reduceMul, Nat.reduceSub, Nat.reduceLT, Int.reduceToNat]))
    all_goals (try rfl)
  rintro i e h' hi ⟨hp, rfl⟩
  refine T_pins hp fun e => ?_
  obtain ⟨k0, k1⟩ := chk_bd s i
  (try (simp (disch := first | omega | (simp <;> omega) | fail) only [push_cast, ↓reduceIte, Nat.reduceEqDiff, Nat.reduceAdd, Nat.reduceMul, Nat.reduceSub, Nat.reduceLT, Int.reduceToNat]))
  first | refine goC_split (fun hc => ?_) (fun hc => ?_) | refine cnd_split (fun hc => ?_) (fun hc => ?_)
  · (try (simp only [decide_eq_true_eq, decide_eq_false_iff_not, Bool.not_eq_true', Bool.not_eq_false', Bool.and_eq_true, Bool.or_eq_true, Int.not_lt, Int.not_le] at hc)); (try (simp (disch := first | omega | (simp <;> omega) | fail) only [push_cast, ↓reduceIte, Nat.reduceEqDiff, Nat.reduceAdd, Nat.reduceMul, Nat.reduceSub, Nat.reduceLT, Int.reduceToNat]))
    have hi2 : i < s.length := by omega
    have hcb : (s.getD i 0).toNat < 256 := UInt8.toNat_lt _
    have hm := mul_bd (x := (i : Int) + 1) (y := ((s.getD i 0).toNat : Int)) (a := 1000000001) (b := 255) (by omega) (by omega) (by omega) (by omega)
    have hs : chk s (i + 1) = (chk s i + ((i : Int) + 1) * ((s.getD i 0).toNat : Int)) % 65521 := rfl
    (try (simp (disch := first | omega | (simp <;> omega) | fail) only [push_cast, ↓reduceIte, Nat.reduceEqDiff, Nat.reduceAdd, Nat.reduceMul, Nat.reduceSub, Nat.reduceLT, Int.reduceToNat]))
    all_goals (try (rw [hs]))
  · (try (simp only [decide_eq_true_eq, decide_eq_false_iff_not, Bool.not_eq_true', Bool.not_eq_false', Bool.and_eq_true, Bool.or_eq_true, Int.not_lt, Int.not_le] at hc)); (try (simp (disch := first | omega | (simp <;> omega) | fail) only [push_cast, ↓reduceIte, Nat.reduceEqDiff, Nat.reduceAdd, Nat.reduceMul, Nat.reduceSub, Nat.reduceLT, Int.reduceToNat]))
    have hie : i = s.length := by omega
    subst hie
    obtain ⟨n, hn⟩ : ∃ n : Nat, chk s s.length = (n : Int) := ⟨_, (Int.toNat_of_nonneg k0).symm⟩
    have hdl := dec_len (n := n) (by omega)
    have hst : sealT s = s ++ 126 :: Lib.decDigits n := by
      unfold sealT
      rw [hn, Int.toNat_natCast]
    rw [hn]
    (try (simp (disch := first | omega | (simp <;> omega) | fail) only [push_cast, ↓reduceIte, Nat.reduceEqDiff, Nat.reduceAdd, Nat.reduceMul, Nat.reduceSub, Nat.reduceLT, Int.reduceToNat]))
    refine (c_spec_l1Num n (by omega)).call ?_
    (try (simp (disch := first | omega | (simp <;> omega) | fail) only [push_cast, ↓reduceIte, Nat.reduceEqDiff, Nat.reduceAdd, Nat.reduceMul, Nat.reduceSub, Nat.reduceLT, Int.reduceToNat]))
    rw [hst]
    all_goals (try simp)

theorem c_spec_SealText (s : Str) : Fn Tryd.prog 9 [.str s] (· = sealV s) := by
  refine Fn.of free_sealV fun h => ?_
  refine enter (by kernel_rfl) e9 (by kernel_rfl) rfl fun hok => ?_
  simp only [r9, initEnv_1]
  (try (simp (disch := first | omega | (simp <;> omega) | fail) only [push_cast, ↓reduceIte, Nat.reduceEqDiff, Nat.reduceAdd, Nat.reduceMul, Nat.reduceSub, Nat.reduceLT, Int.reduceToNat]))
  refine (c_spec_stPlain s).call ?_
  unfold sealV
  cases hp : plainV s
  · (try (simp (disch := first | omega | (simp <;> omega) | fail) only [push_cast, ↓reduceIte, Nat.reduceEqDiff, Nat.reduceAdd, Nat.reduceMul, Nat.reduceSub, Nat.reduceLT, Int.reduceToNat]))
    all_goals (try rfl)
  have hl : s.length ≤ 6000 := by
    simp only [plainV, Bool.and_eq_true, decide_eq_true_eq] at hp
    omega
  (try (simp (disch := first | omega | (simp <;> omega) | fail) only [push_cast, ↓reduceIte, Nat.reduceEqDiff, Nat.reduceAdd, Nat.reduceMul, Nat.reduceSub, Nat.reduceLT, Int.reduceToNat]))
  refine (c_spec_stSeal s (by omega)).call ?_
  (try (simp (disch := first | omega | (simp <;> omega) | fail) only [push_cast, ↓reduceIte, Nat.reduceEqDiff, Nat.reduceAdd, Nat.reduceMul, Nat.reduceSub, Nat.reduceLT, Int.reduceToNat]))
  all_goals (try rfl)

def beforeT (s : Str) : Str := s.takeWhile fun c => c != 126
def openOk (s t : Str) : Bool := plainV t && decide (sealT t = s)
def openV (s : Str) : AV := if openOk s (beforeT s) then .tup [.str (beforeT s), .bool true] else .tup [.str [], .bool false]
theorem free_openV {s : Str} : Free (openV s) := by
  unfold openV
  split <;> exact free_tup (free_cons_ free_str (free_cons_ free_bool free_nil_))
theorem plain_no126 {t : Str} (h : plain t = true) : ∀ c ∈ t, (c != 126) = true := by
  intro c hc
  have := List.all_eq_true.1 h c hc
  simp only [okCh, Bool.and_eq_true, decide_eq_true_eq] at this
  simp only [bne_iff_ne, ne_eq]
  intro he
  subst he
  simp at this
theorem plainV_plain {t : Str} (h : plainV t = true) : plain t = true := by
  simp only [plainV, Bool.and_eq_true] at h
  exact h.1
theorem before_app {t r : Str} (h : ∀ c ∈ t, (c != 126) = true) : beforeT (t ++ 126 :: r) = t := by
  unfold beforeT
  rw [List.takeWhile_append_of_pos h]
  simp
theorem sealT_len (t : Str) : t.length < (sealT t).length := by
  unfold sealT
  simp
theorem dec_no126 {n : Nat} : (126 : UInt8) ∉ Lib.decDigits n := fun h => by
  have := dec_plain n 126 h
  simp at this
theorem before_no : ∀ {s : Str}, (126 : UInt8) ∉ s → beforeT s = s
  | [], _ => rfl
  | c :: s, h => by
    simp only [List.mem_cons, not_or] at h
    have ih := before_no h.2
    have hc : (c != 126) = true := by simpa using Ne.symm h.1
    unfold beforeT at ih ⊢
    rw [List.takeWhile_cons, if_pos hc, ih]
theorem open_none {s : Str} (h : (126 : UInt8) ∉ s) : openOk s (beforeT s) = false := by
  rw [before_no h]
  unfold openOk
  have := sealT_len s
  have hne : sealT s ≠ s := fun he => by
    rw [he] at this
    omega
  simp [hne]
theorem split_at {s : Str} {a : Nat} (ha : a < s.length) (hc : s.getD a 0 = 126) : s = s.take a ++ 126 :: s.drop (a + 1) := by
  have h1 : s[a] = 126 := by simpa [ha] using hc
  conv => lhs; rw [← List.take_append_drop a s, List.drop_eq_getElem_cons ha, h1]
/-- The last mark serves as well as the first. -/
theorem open_last {s : Str} {a : Nat} (ha : a < s.length) (hc : s.getD a 0 = 126) (hd : (126 : UInt8) ∉ s.drop (a + 1)) : openOk s (s.take a) = openOk s (beforeT s) ∧ (openOk s (s.take a) = true → s.take a = beforeT s) := by
  have hs := split_at ha hc
  by_cases hp : plainV (s.take a) = true
  · have hb : beforeT s = s.take a := by
      conv => lhs; rw [hs]
      exact before_app (plain_no126 (plainV_plain hp))
    rw [hb]
    exact ⟨rfl, fun _ => rfl⟩
  · have h1 : openOk s (s.take a) = false := by
      unfold openOk
      rw [Bool.not_eq_true] at hp
      rw [hp]
      rfl
    refine ⟨?_, fun h => by rw [h1] at h; cases h⟩
    rw [h1]
    cases h2 : openOk s (beforeT s) with
    | false => rfl
    | true =>
      exfalso
      simp only [openOk, Bool.and_eq_true, decide_eq_true_eq] at h2
      obtain ⟨p1, p2⟩ := h2
      generalize beforeT s = t at p1 p2
      unfold sealT at p2
      have hget : (t ++ 126 :: Lib.decDigits (chk t t.length).toNat)[a]? = some 126 := by
        rw [p2]
        simpa [ha] using hc
      rcases Nat.lt_trichotomy a t.length with h5 | h5 | h5
      · rw [List.getElem?_append_left h5] at hget
        have := plain_no126 (plainV_plain p1) 126 (List.mem_of_getElem? hget)
        simp at this
      · subst h5
        refine hp ?_
        rw [← p2, List.take_left]
        exact p1
      · rw [List.getElem?_append_right (by omega), show a - t.length = (a - t.length - 1) + 1 by omega, List.getElem?_cons_succ] at hget
        exact dec_no126 (List.mem_of_getElem? hget)

theorem ix_spec : ∀ (s : Str) (c : UInt8), (Lib.indexByte s c = -1 ∧ c ∉ s) ∨ ∃ k : Nat, Lib.indexByte s c = k ∧ k < s.length ∧ s.getD k 0 = c ∧ c ∉ s.take k
  | [], c => .inl ⟨rfl, by simp⟩
  | x :: s, c => by
    unfold Lib.indexByte
    by_cases hx : x = c
    · subst hx
      right
      refine ⟨0, ?_, by simp, by simp, by simp⟩
      simp
    · rcases ix_spec s c with ⟨h1, h2⟩ | ⟨k, h1, h2, h3, h4⟩
      · left
        refine ⟨?_, by simp [Ne.symm hx, h2]⟩
        simp [hx, h1]
      · right
        refine ⟨k + 1, ?_, by simp; omega, by simpa using h3, by simp [Ne.symm hx, h4]⟩
        simp [hx, h1]
        try omega
def cutB (s : Str) : Bool := decide ((126 : UInt8) ∈ s)
theorem cut_eq (s : Str) : (Lib.cut s [126]).1 = beforeT s ∧ (Lib.cut s [126]).2.2 = cutB s := by
  unfold Lib.cut cutB
  rw [Lib.index_one]
  rcases ix_spec s 126 with ⟨h1, h2⟩ | ⟨k, h1, h2, h3, h4⟩
  · rw [h1, if_neg (by omega)]
    exact ⟨(before_no h2).symm, by simp [h2]⟩
  · rw [h1, if_pos (by omega)]
    have hs := split_at h2 h3
    refine ⟨?_, ?_⟩
    · have : beforeT s = s.take k := by
        conv => lhs; rw [hs]
        refine before_app fun c hc => ?_
        simp only [bne_iff_ne, ne_eq]
        intro he
        exact h4 (he ▸ hc)
      rw [this]
      simp
    · have : (126 : UInt8) ∈ s := by
        rw [hs]
        simp
      simp [this]

theorem c_strings_Cut (s : Str) (hl : s.length ≤ 4000000000) : Fn Tryd.prog 34 [.str s, .str [126]] (· = .tup [.str (beforeT s), .str (Lib.cut s [126]).2.1, .bool (cutB s)]) :=
  Fn.ofGrow (canEnter_of Tryd.func34 (by kernel_rfl) (by kernel_rfl)) fun S w μ cargs hg ha => by
    obtain ⟨v, u, rfl, hv, hu⟩ := ar_2 ha
    rw [hv.str_, hu.str_]
    obtain ⟨m, hm⟩ := gl_int hg (List.mem_singleton.2 rfl)
    have hb : (beforeT s).length ≤ s.length := (List.takeWhile_prefix _).length_le
    have hb2 : (Lib.cut s [126]).2.1.length ≤ s.length := by
      unfold Lib.cut
      split <;> simp
    obtain ⟨c1, c2⟩ := cut_eq s
    refine ⟨.tuple #[.string ⟨(beforeT s).toArray⟩, .string ⟨(Lib.cut s [126]).2.1.toArray⟩, .bool (cutB s)], fun S w μ => .tup rfl (fun i x hx => ?_), (Tryd.strings_Cut ⟨s.toArray⟩ ⟨#[126]⟩ m w (by
      show s.toArray.size < 4294967281
      simp
      omega) hm).mono ?_⟩
    · rcases i with _ | _ | _ | i
      · simp at hx; subst hx; exact .str _ (by omega)
      · simp at hx; subst hx; exact .str _ (by omega)
      · simp at hx; subst hx; exact .bool _
      · simp at hx
    · rintro e w' ⟨rfl, n, rfl⟩
      refine ⟨?_, n, #[], by simp⟩
      rw [← c1, ← c2]

theorem c_impl_OpenSeal (s : Str) (hl : s.length ≤ 1000000000) : Fn Tryd.prog 12 [.str s] (· = openV s) := by
  refine Fn.of free_openV fun h => ?_
  refine enter (by kernel_rfl) e12 (by kernel_rfl) rfl fun hok => ?_
  simp only [r12, initEnv_1]
  have hb : (beforeT s).length ≤ s.length := (List.takeWhile_prefix _).length_le
  (try (simp (disch := first | omega | (simp <;> omega) | fail) only [push_cast, ↓reduceIte, Nat.reduceEqDiff, Nat.reduceAdd, Nat.reduceMul, Nat.reduceSub, Nat.reduceLT, Int.reduceToNat]))
  refine (c_strings_Cut s (by omega)).call ?_
  (try (simp (disch := first | omega | (simp <;> omega) | fail) only [push_cast, ↓reduceIte, Nat.reduceEqDiff, Nat.reduceAdd, Nat.reduceMul, Nat.reduceSub, Nat.reduceLT, Int.reduceToNat]))
  refine (c_impl_SealText (beforeT s) (by omega)).call ?_
  unfold sealV openV openOk
  cases h1 : cutB s
  · have hno : (126 : UInt8) ∉ s := by simpa [cutB] using h1
    have hA := open_none hno
    unfold openOk at hA
    rw [hA]
    cases h2 : plainV (beforeT s)
    · (try (simp (disch := first | omega | (simp <;> omega) | fail) only [push_cast, ↓reduceIte, Nat.reduceEqDiff, Nat.reduceAdd, Nat.reduceMul, Nat.reduceSub, Nat.reduceLT, Int.reduceToNat]))
      all_goals (try rfl)
    · (try (simp (disch := first | omega | (simp <;> omega) | fail) only [push_cast, ↓reduceIte, Nat.reduceEqDiff, Nat.reduceAdd, Nat.reduceMul, Nat.reduceSub, Nat.reduceLT, Int.reduceToNat]))
      all_goals (try rfl)
  · cases h2 : plainV (beforeT s)
    · (try (simp (disch := first | omega | (simp <;> omega) | fail) only [push_cast, ↓reduceIte, Nat.reduceEqDiff, Nat.reduceAdd, Nat.reduceMul, Nat.reduceSub, Nat.reduceLT, Int.reduceToNat]))
      all_goals (try rfl)
    · by_cases h8 : sealT (beforeT s) = s
      · (try (simp (disch := first | omega | (simp <;> omega) | fail) only [push_cast, ↓reduceIte, Nat.reduceEqDiff, Nat.reduceAdd, Nat.reduceMul, Nat.reduceSub, Nat.reduceLT, Int.reduceToNat, h8]))
        all_goals (try rfl)
      · (try (simp (disch := first | omega | (simp <;> omega) | fail) only [push_cast, ↓reduceIte, Nat.reduceEqDiff, Nat.reduceAdd, Nat.reduceMul, Nat.reduceSub, Nat.reduceLT, Int.reduceToNat, h8]))
        all_goals (try rfl)

def decV (l : Str) : Nat := l.foldl (fun a c => 10 * a + (c.toNat - 48)) 0
theorem decV_dec : ∀ n : Nat, decV (Lib.decDigits n) = n := fun n => by
  induction n using Nat.strongRecOn with
  | _ n ih =>
    rw [dec_rec]
    by_cases hn : n < 10
    · rw [if_pos hn]
      simp [decV]
      omega
    · rw [if_neg hn]
      unfold decV at ih ⊢
      rw [List.foldl_append, ih (n / 10) (by omega)]
      simp
      omega
theorem dec_inj {n m : Nat} (h : Lib.decDigits n = Lib.decDigits m) : n = m := by
  rw [← decV_dec n, h, decV_dec]
/-- The weighted sum. -/
def wsum (s : Str) : Nat → Int
  | 0 => 0
  | i + 1 => wsum s i + ((i : Int) + 1) * ((s.getD i 0).toNat : Int)
theorem chk_wsum (s : Str) : ∀ i, chk s i = wsum s i % 65521
  | 0 => by simp [chk, wsum]
  | i + 1 => by
    unfold chk wsum
    rw [chk_wsum s i, Int.emod_add_emod]
theorem getD_set {s : Str} {i j : Nat} {o : UInt8} (hi : i < s.length) : (s.set i o).getD j 0 = if j = i then o else s.getD j 0 := by
  simp only [List.getD_eq_getElem?_getD, List.getElem?_set]
  by_cases hj : i = j
  · subst hj
    simp [hi]
  · rw [if_neg hj, if_neg (Ne.symm hj)]
theorem wsum_set {s : Str} {i : Nat} {o : UInt8} (hi : i < s.length) : ∀ n, wsum (s.set i o) n = wsum s n + if i < n then ((i : Int) + 1) * ((o.toNat : Int) - ((s.getD i 0).toNat : Int)) else 0
  | 0 => by simp [wsum]
  | n + 1 => by
    unfold wsum
    rw [wsum_set hi n, getD_set hi]
    by_cases hn : n = i
    · subst hn
      rw [if_neg (by omega), if_pos rfl, if_pos (by omega), Int.mul_sub]
      omega
    · rw [if_neg hn]
      by_cases h5 : i < n
      · rw [if_pos h5, if_pos (show i < n + 1 by omega)]
        omega
      · simp only [if_neg h5, if_neg (show ¬ i < n + 1 by omega), Int.add_zero]
theorem cop : ∀ d, d < 94 → d ≠ 0 → Nat.gcd 65521 d = 1 := by decide
theorem chk_ne {s : Str} {i : Nat} {o : UInt8} (hi : i < s.length) (hl : s.length ≤ 6000) (h1 : okCh (s.getD i 0) = true) (h2 : okCh o = true) (hne : o ≠ s.getD i 0) : chk (s.set i o) s.length ≠ chk s s.length := by
  simp only [okCh, Bool.and_eq_true, decide_eq_true_eq] at h1 h2
  rw [chk_wsum, chk_wsum, wsum_set hi, if_pos hi]
  generalize wsum s s.length = t
  intro h
  have hne2 : o.toNat ≠ (s.getD i 0).toNat := fun he => hne (UInt8.toNat_inj.1 he)
  generalize (s.getD i 0).toNat = a at h1 hne2 h
  generalize o.toNat = b at h2 hne2 h
  have hd : (65521 : Int) ∣ ((i : Int) + 1) * ((b : Int) - (a : Int)) := by
    have := Int.emod_emod_of_dvd (t + ((i : Int) + 1) * ((b : Int) - (a : Int))) (Int.dvd_refl 65521)
    have h3 : (t + ((i : Int) + 1) * ((b : Int) - (a : Int)) - t) % 65521 = 0 := by
      rw [Int.sub_emod, h, Int.sub_self]
      rfl
    rw [show t + ((i : Int) + 1) * ((b : Int) - (a : Int)) - t = ((i : Int) + 1) * ((b : Int) - (a : Int)) by omega] at h3
    exact Int.dvd_of_emod_eq_zero h3
  have hn : 65521 ∣ (i + 1) * ((b : Int) - (a : Int)).natAbs := by
    have := Int.natAbs_dvd_natAbs.2 hd
    rw [Int.natAbs_mul] at this
    have e : ((i : Int) + 1).natAbs = i + 1 := by omega
    rw [e] at this
    exact this
  have hc := cop ((b : Int) - (a : Int)).natAbs (by omega) (by omega)
  have := Nat.Coprime.dvd_of_dvd_mul_right hc hn
  have := Nat.le_of_dvd (by omega) this
  omega
theorem open_sealed {s : Str} (hp : plainV s = true) : openOk (sealT s) (beforeT (sealT s)) = true ∧ beforeT (sealT s) = s := by
  have hb : beforeT (sealT s) = s := by
    unfold sealT
    exact before_app (plain_no126 (plainV_plain hp))
  rw [hb]
  unfold openOk
  simp [hp]
theorem seal_damage {s : Str} {i : Nat} {o : UInt8} (hp : plainV s = true) (hi : i < (sealT s).length) : openOk ((sealT s).set i o) (beforeT ((sealT s).set i o)) = decide (o = (sealT s).getD i 0) := by
  by_cases ho : o = (sealT s).getD i 0
  · have : (sealT s).set i o = sealT s := by
      rw [ho]
      refine List.ext_getElem? fun j => ?_
      rw [List.getElem?_set]
      by_cases hj : i = j
      · subst hj
        simp [hi]
      · rw [if_neg hj]
    rw [this, (open_sealed hp).1]
    simp [ho]
  · rw [decide_eq_false ho]
    have hpl := plainV_plain hp
    have hl : s.length ≤ 6000 := by
      simp only [plainV, Bool.and_eq_true, decide_eq_true_eq] at hp
      omega
    have h126 := plain_no126 hpl
    cases hq : openOk ((sealT s).set i o) (beforeT ((sealT s).set i o)) with
    | false => rfl
    | true =>
      exfalso
      have hq2 := hq
      simp only [openOk, Bool.and_eq_true, decide_eq_true_eq] at hq2
      obtain ⟨q1, q2⟩ := hq2
      rcases Nat.lt_trichotomy i s.length with h5 | h5 | h5
      · have hset : (sealT s).set i o = s.set i o ++ 126 :: Lib.decDigits (chk s s.length).toNat := by
          unfold sealT
          rw [List.set_append_left _ _ h5]
        have hgi : (sealT s).getD i 0 = s.getD i 0 := by
          unfold sealT
          simp [List.getElem?_append_left h5]
        rw [hgi] at ho
        by_cases ho6 : o = 126
        · have hcut : s.set i o = s.take i ++ 126 :: s.drop (i + 1) := by
            rw [List.set_eq_take_append_cons_drop, if_pos h5, ho6]
          have hb : beforeT ((sealT s).set i o) = s.take i := by
            rw [hset, hcut, List.append_assoc]
            exact before_app fun c hc => h126 c (List.mem_of_mem_take hc)
          rw [hb, hset, hcut] at q2
          unfold sealT at q2
          rw [List.append_assoc] at q2
          have q3 := List.append_cancel_left q2
          simp only [List.cons_append, List.cons.injEq, true_and] at q3
          have : (126 : UInt8) ∈ Lib.decDigits (chk (s.take i) (s.take i).length).toNat := by
            rw [q3]
            simp
          exact dec_no126 this
        · have hall : ∀ c ∈ s.set i o, (c != 126) = true := by
            intro c hc
            rcases List.mem_or_eq_of_mem_set hc with h6 | h6
            · exact h126 c h6
            · subst h6
              simpa using ho6
          have hb : beforeT ((sealT s).set i o) = s.set i o := by
            rw [hset]
            exact before_app hall
          rw [hb, hset] at q2
          rw [hb] at q1
          unfold sealT at q2
          have q3 := List.append_cancel_left q2
          simp only [List.cons.injEq, true_and] at q3
          have q4 := dec_inj q3
          rw [List.length_set] at q4
          obtain ⟨a1, _⟩ := chk_bd (s.set i o) s.length
          obtain ⟨b1, _⟩ := chk_bd s s.length
          refine chk_ne h5 hl (List.all_eq_true.1 hpl _ (by simp [h5])) (List.all_eq_true.1 (plainV_plain q1) o ?_) ho (by omega)
          exact List.mem_of_getElem? (i := i) (by simp [h5])
      · have hset : (sealT s).set i o = s ++ o :: Lib.decDigits (chk s s.length).toNat := by
          unfold sealT
          rw [h5]
          exact set_last
        have hgi : (sealT s).getD i 0 = 126 := by
          unfold sealT
          rw [h5]
          simp
        rw [hgi] at ho
        have hno : (126 : UInt8) ∉ (sealT s).set i o := by
          rw [hset]
          intro h6
          rcases List.mem_append.1 h6 with h6 | h6
          · have := h126 126 h6
            simp at this
          · rcases List.mem_cons.1 h6 with h6 | h6
            · exact ho h6.symm
            · exact dec_no126 h6
        rw [open_none hno] at hq
        cases hq
      · have hset : (sealT s).set i o = s ++ 126 :: (Lib.decDigits (chk s s.length).toNat).set (i - s.length - 1) o := by
          unfold sealT
          rw [List.set_append_right _ _ (by omega), show i - s.length = (i - s.length - 1) + 1 by omega, List.set_cons_succ]
          rfl
        have hb : beforeT ((sealT s).set i o) = s := by
          rw [hset]
          exact before_app h126
        rw [hb] at q2
        refine ho ?_
        have : ((sealT s).set i o).getD i 0 = o := by simp [hi]
        rw [← q2] at this
        exact this.symm

theorem fit_bytes {zs : List AV} (h : Fit (.sl (.int .u8) 1) zs) : ∃ a : Option (List UInt8), zs = [eU a] := by
  have key : ∀ xs, Fit (.int .u8) xs → ∃ c : UInt8, xs = [AV.int .u8 (c.toNat : Int)] := fun xs hx => by
    cases hx with
    | @int _ n h1 h2 =>
      have h1' : 0 ≤ n := by simpa [IntKind.min, IntKind.signed, IntKind.bits] using h1
      have h2' : n ≤ 255 := by simpa [IntKind.max, IntKind.signed, IntKind.bits] using h2
      refine ⟨UInt8.ofNat n.toNat, ?_⟩
      have : ((UInt8.ofNat n.toNat).toNat : Int) = n := by
        simp
        omega
      rw [this]
  rcases fit_rows (f := fun c : UInt8 => [AV.int .u8 (c.toNat : Int)]) key h with rfl | ⟨l, rfl⟩
  · exact ⟨none, rfl⟩
  · exact ⟨some l, by rw [flatMap_one]; rfl⟩
def sh_FnSealsShowDamage : List Sh := [.sl (.int .u8) 1, .sl (.int .u8) 1]
theorem law_FnSealsShowDamage (ys : List AV) (hy : ArgsFit sh_FnSealsShowDamage ys) : Call Tryd.prog 5 ys [] Nowhere (fun x _ => x = .bool true) := by
  obtain ⟨x1, y1, rfl, h1, hy⟩ := argsFit_cons hy
  obtain ⟨x2, y2, rfl, h2, hy⟩ := argsFit_cons hy
  obtain rfl := argsFit_nil hy
  obtain ⟨code, hce⟩ := fit_bytes h1
  obtain ⟨more, hme⟩ := fit_bytes h2
  subst hce hme
  refine (?_ : ∀ h, Call Tryd.prog 5 [eU code, eU more] h Nowhere (fun x _ => x = .bool true)) []
  intro h
  refine enter (by kernel_rfl) e5 (by kernel_rfl) rfl fun hok => ?_
  simp only [r5, initEnv_2]
  have hl1 := ok_eU (okV_0 hok)
  have hl2 := ok_eU (okV_1 hok)
  (try (simp (disch := first | omega | (simp <;> omega) | fail) only [push_cast, ↓reduceIte, Nat.reduceEqDiff, Nat.reduceAdd, Nat.reduceMul, Nat.reduceSub, Nat.reduceLT, Int.reduceToNat]))
  refine (c_laws_big code more hl1).call ?_
  cases hb : (decide (1048576 < ((lU code).length : Int)) || decide (1048576 - ((lU code).length : Int) < ((lU more).length : Int)))
  · simp only [Bool.or_eq_false_iff, decide_eq_false_iff_not] at hb
    (try (simp (disch := first | omega | (simp <;> omega) | fail) only [push_cast, ↓reduceIte, Nat.reduceEqDiff, Nat.reduceAdd, Nat.reduceMul, Nat.reduceSub, Nat.reduceLT, Int.reduceToNat]))
    refine (c_spec_DrawSealText code).use ?_
    rintro x ⟨s, rfl, hs⟩
    (try (simp (disch := first | omega | (simp <;> omega) | fail) only [push_cast, ↓reduceIte, Nat.reduceEqDiff, Nat.reduceAdd, Nat.reduceMul, Nat.reduceSub, Nat.reduceLT, Int.reduceToNat]))
    refine (c_impl_SealText s (by omega)).call ?_
    unfold sealV
    cases hp : plainV s
    · (try (simp (disch := first | omega | (simp <;> omega) | fail) only [push_cast, ↓reduceIte, Nat.reduceEqDiff, Nat.reduceAdd, Nat.reduceMul, Nat.reduceSub, Nat.reduceLT, Int.reduceToNat]))
      refine (c_spec_SealText s).call ?_
      unfold sealV
      rw [hp]
      (try (simp (disch := first | omega | (simp <;> omega) | fail) only [push_cast, ↓reduceIte, Nat.reduceEqDiff, Nat.reduceAdd, Nat.reduceMul, Nat.reduceSub, Nat.reduceLT, Int.reduceToNat]))
    · (try (simp (disch := first | omega | (simp <;> omega) | fail) only [push_cast, ↓reduceIte, Nat.reduceEqDiff, Nat.reduceAdd, Nat.reduceMul, Nat.reduceSub, Nat.reduceLT, Int.reduceToNat]))
      refine (c_spec_SealText s).call ?_
      unfold sealV
      rw [hp]
      obtain ⟨o1, o2⟩ := open_sealed hp
      obtain ⟨k0, k1⟩ := chk_bd s s.length
      have hdl := dec_len (n := (chk s s.length).toNat) (by omega)
      have hsl : (sealT s).length ≤ 9000 ∧ 1 ≤ (sealT s).length := by
        unfold sealT
        simp
        omega
      have hop : openV (sealT s) = .tup [.str s, .bool true] := by
        unfold openV
        rw [o1, o2]
        rfl
      obtain ⟨hs1, hs2⟩ := hsl
      (try (simp (disch := first | omega | (simp <;> omega) | fail) only [push_cast, ↓reduceIte, Nat.reduceEqDiff, Nat.reduceAdd, Nat.reduceMul, Nat.reduceSub, Nat.reduceLT, Int.reduceToNat]))
      refine (c_impl_OpenSeal (sealT s) (by omega)).call ?_
      rw [hop]
      obtain ⟨i, hi⟩ : ∃ i : Nat, (lU more).length % (sealT s).length = i := ⟨_, rfl⟩
      have hil : i < (sealT s).length := by
        rw [← hi]
        exact Nat.mod_lt _ (by omega)
      have hiN : ((lU more).length : Int) % ((sealT s).length : Int) = (i : Int) := by
        rw [← hi]
        simp
      have hmod : ∀ o : UInt8, (sealT s).take i ++ o :: (sealT s).drop (i + 1) = (sealT s).set i o := fun o => by
        rw [List.set_eq_take_append_cons_drop, if_pos hil]
      have hopen : ∀ o : UInt8, ∃ t, openV ((sealT s).set i o) = .tup [.str t, .bool (decide (o = (sealT s).getD i 0))] := fun o => by
        unfold openV
        rw [seal_damage hp hil]
        cases hd : decide (o = (sealT s).getD i 0) with
        | true => exact ⟨_, by rw [if_pos rfl]⟩
        | false => exact ⟨[], by rw [if_neg (by simp)]⟩
      have hmod2 : ∀ o : UInt8, List.take (i - 0) (List.drop 0 (sealT s)) ++ o :: List.take ((sealT s).length - (i + 1)) (List.drop (i + 1) (sealT s)) = (sealT s).set i o := fun o => by
        have e5 : List.take ((sealT s).length - (i + 1)) (List.drop (i + 1) (sealT s)) = List.drop (i + 1) (sealT s) := List.take_of_length_le (by rw [List.length_drop]; exact Nat.le_refl _)
        rw [e5, Nat.sub_zero, List.drop_zero, hmod o]
      (try (simp (disch := first | omega | (simp <;> omega) | fail) only [push_cast, ↓reduceIte, Nat.reduceEqDiff, Nat.reduceAdd, Nat.reduceMul, Nat.reduceSub, Nat.reduceLT, Int.reduceToNat, hiN]))
      first | refine goC_split (fun hc => ?_) (fun hc => ?_) | refine cnd_split (fun hc => ?_) (fun hc => ?_)
      · (try (simp only [decide_eq_true_eq, decide_eq_false_iff_not, Bool.not_eq_true', Bool.not_eq_false', Bool.and_eq_true, Bool.or_eq_true, Int.not_lt, Int.not_le] at hc)); (try (simp (disch := first | omega | (simp <;> omega) | fail) only [push_cast, ↓reduceIte, Nat.reduceEqDiff, Nat.reduceAdd, Nat.reduceMul, Nat.reduceSub, Nat.reduceLT, Int.reduceToNat]))
        (try (simp (disch := first | omega | (simp <;> omega) | fail) only [push_cast, ↓reduceIte, Nat.reduceEqDiff, Nat.reduceAdd, Nat.reduceMul, Nat.reduceSub, Nat.reduceLT, Int.reduceToNat, hiN]))
        rw [hmod2, UInt8.ofNat_toNat]
        generalize (lU more).getD 0 0 = o
        refine (c_impl_OpenSeal ((sealT s).set i o) (by simp; omega)).call ?_
        obtain ⟨t, ht⟩ := hopen o
        rw [ht]
        by_cases ho : o = (sealT s).getD i 0
        · have ho2 : o.toNat = ((sealT s).getD i 0).toNat := by rw [ho]
          rw [decide_eq_true ho]
          (try (simp (disch := first | omega | (simp <;> omega) | fail) only [push_cast, ↓reduceIte, Nat.reduceEqDiff, Nat.reduceAdd, Nat.reduceMul, Nat.reduceSub, Nat.reduceLT, Int.reduceToNat, hiN]))
        · have ho2 : o.toNat ≠ ((sealT s).getD i 0).toNat := fun he => ho (UInt8.toNat_inj.1 he)
          rw [decide_eq_false ho]
          (try (simp (disch := first | omega | (simp <;> omega) | fail) only [push_cast, ↓reduceIte, Nat.reduceEqDiff, Nat.reduceAdd, Nat.reduceMul, Nat.reduceSub, Nat.reduceLT, Int.reduceToNat, hiN]))
      · (try (simp only [decide_eq_true_eq, decide_eq_false_iff_not, Bool.not_eq_true', Bool.not_eq_false', Bool.and_eq_true, Bool.or_eq_true, Int.not_lt, Int.not_le] at hc)); (try (simp (disch := first | omega | (simp <;> omega) | fail) only [push_cast, ↓reduceIte, Nat.reduceEqDiff, Nat.reduceAdd, Nat.reduceMul, Nat.reduceSub, Nat.reduceLT, Int.reduceToNat]))
        (try (simp (disch := first | omega | (simp <;> omega) | fail) only [push_cast, ↓reduceIte, Nat.reduceEqDiff, Nat.reduceAdd, Nat.reduceMul, Nat.reduceSub, Nat.reduceLT, Int.reduceToNat, hiN]))
        rw [hmod2]
        refine (c_impl_OpenSeal ((sealT s).set i (UInt8.ofNat 35)) (by simp; omega)).call ?_
        obtain ⟨t, ht⟩ := hopen (UInt8.ofNat 35)
        rw [ht]
        have h35 : (UInt8.ofNat 35).toNat = 35 := rfl
        by_cases ho : UInt8.ofNat 35 = (sealT s).getD i 0
        · have ho2 : ((sealT s).getD i 0).toNat = 35 := by rw [← ho, h35]
          rw [decide_eq_true ho]
          (try (simp (disch := first | omega | (simp <;> omega) | fail) only [push_cast, ↓reduceIte, Nat.reduceEqDiff, Nat.reduceAdd, Nat.reduceMul, Nat.reduceSub, Nat.reduceLT, Int.reduceToNat, hiN]))
        · have ho2 : ((sealT s).getD i 0).toNat ≠ 35 := fun he => ho (UInt8.toNat_inj.1 (by rw [he]; rfl))
          rw [decide_eq_false ho]
          (try (simp (disch := first | omega | (simp <;> omega) | fail) only [push_cast, ↓reduceIte, Nat.reduceEqDiff, Nat.reduceAdd, Nat.reduceMul, Nat.reduceSub, Nat.reduceLT, Int.reduceToNat, hiN]))
  · (try (simp (disch := first | omega | (simp <;> omega) | fail) only [push_cast, ↓reduceIte, Nat.reduceEqDiff, Nat.reduceAdd, Nat.reduceMul, Nat.reduceSub, Nat.reduceLT, Int.reduceToNat]))

end Go.Proofs.YtdioanhigobpcaaDoor.M
