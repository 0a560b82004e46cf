/-
  What the functions return.
-/
import Derived.Test.YtgkdnpigbpkehaaFd
import Derived.Test.YtgkdnpigbpkehaaCc
namespace Go.Proofs.Ytgkdnpigbpkehaa.M
open Go Go.RowKit
set_option linter.unusedVariables false
set_option linter.unusedSimpArgs false
set_option maxRecDepth 4000

theorem c_spec_l1Most (a b : Int) : Fn Try.prog 112 [.int .i64 a, .int .i64 b] (· = .int .i64 (if b < a then a else b)) := by
  refine Fn.of free_int fun h => ?_
  refine enter (by kernel_rfl) e112 (by kernel_rfl) rfl fun hok => ?_
  simp only [r112, initEnv_2]
  (try (simp (disch := first | omega | (simp <;> omega) | fail) only [push_cast, ↓reduceIte, Nat.reduceEqDiff, Nat.reduceAdd, Nat.reduceMul, Nat.reduceSub, Nat.reduceLT, Int.reduceToNat]))
  first | refine goC_split (fun hc => ?_) (fun hc => ?_) | refine cnd_split (fun hc => ?_) (fun hc => ?_)
  · (try (simp only [decide_eq_true_eq, decide_eq_false_iff_not, Bool.not_eq_true', Bool.not_eq_false', Bool.and_eq_true, Bool.or_eq_true, Int.not_lt, Int.not_le] at hc)); (try (simp (disch := first | omega | (simp <;> omega) | fail) only [push_cast, ↓reduceIte, Nat.reduceEqDiff, Nat.reduceAdd, Nat.reduceMul, Nat.reduceSub, Nat.reduceLT, Int.reduceToNat]))
    all_goals (try rw [if_pos hc])
  · (try (simp only [decide_eq_true_eq, decide_eq_false_iff_not, Bool.not_eq_true', Bool.not_eq_false', Bool.and_eq_true, Bool.or_eq_true, Int.not_lt, Int.not_le] at hc)); (try (simp (disch := first | omega | (simp <;> omega) | fail) only [push_cast, ↓reduceIte, Nat.reduceEqDiff, Nat.reduceAdd, Nat.reduceMul, Nat.reduceSub, Nat.reduceLT, Int.reduceToNat]))
    all_goals (try rw [if_neg (by omega)])

def okCh (c : UInt8) : Bool := decide (32 ≤ (c.toNat : Int)) && decide ((c.toNat : Int) ≤ 125)
def plain (s : Str) : Bool := s.all okCh
def plainV (s : Str) : Bool := plain s && decide ((s.length : Int) ≤ 6000)
/-- The checksum of the first so many. -/
def chk (s : Str) : Nat → Int
  | 0 => 0
  | i + 1 => (chk s i + ((i : Int) + 1) * ((s.getD i 0).toNat : Int)) % 65521
theorem chk_bd (s : Str) : ∀ i, 0 ≤ chk s i ∧ chk s i < 65521
  | 0 => by simp [chk]
  | i + 1 => by
    unfold chk
    omega
def sealT (s : Str) : Str := s ++ 126 :: Lib.decDigits (chk s s.length).toNat
def sealV (s : Str) : AV := if plainV s then .tup [.str (sealT s), .bool true] else .tup [.str [], .bool false]
theorem free_sealV {s : Str} : Free (sealV s) := by
  unfold sealV
  split <;> exact free_tup (free_cons_ free_str (free_cons_ free_bool free_nil_))
theorem plain_take {s : Str} {i : Nat} (hi : i < s.length) : plain (s.take (i + 1)) = (plain (s.take i) && okCh (s.getD i 0)) := by
  unfold plain
  rw [List.take_add_one, List.all_append]
  simp [hi]
theorem plain_no {s : Str} {i : Nat} (hi : i < s.length) (hf : okCh (s.getD i 0) = false) : plain s = false := by
  unfold plain
  rw [List.all_eq_false]
  exact ⟨s.getD i 0, by simp [hi], by rw [hf]; simp⟩
theorem itoa_nn {n : Int} (h : 0 ≤ n) : Lib.itoa n = Lib.decDigits n.toNat := by
  unfold Lib.itoa
  rw [if_neg (by omega)]
theorem dec_len {n : Nat} (h : n < 18446744073709551616) : (Lib.decDigits n).length ≤ 20 := by
  rw [Lib.decDigits_length]
  exact Lib.nDigits_le20 n h
theorem dec_rec {n : Nat} : Lib.decDigits n = if n < 10 then [UInt8.ofNat (48 + n)] else Lib.decDigits (n / 10) ++ [UInt8.ofNat (48 + n % 10)] := by
  rw [Lib.decDigits]
  split <;> rfl
theorem dec_plain : ∀ n : Nat, ∀ c ∈ Lib.decDigits n, 48 ≤ c.toNat ∧ c.toNat ≤ 57 := fun n => by
  induction n using Nat.strongRecOn with
  | _ n ih =>
    rw [dec_rec]
    by_cases hn : n < 10
    · rw [if_pos hn]
      intro c hc
      simp at hc
      subst hc
      simp
      omega
    · rw [if_neg hn]
      intro c hc
      rcases List.mem_append.1 hc with hc | hc
      · exact ih (n / 10) (by omega) c hc
      · simp at hc
        subst hc
        simp
        omega

theorem fits_cons {s : Sh} {ss : List Sh} {zs : List AV} (h : Fits (s :: ss) zs) : ∃ xs ys, zs = xs ++ ys ∧ Fit s xs ∧ Fits ss ys := by
  cases h with
  | cons h hr => exact ⟨_, _, rfl, h, hr⟩
theorem fits_nil {zs : List AV} (h : Fits [] zs) : zs = [] := by cases h; rfl
theorem fit_int {zs : List AV} (h : Fit (.int .i64) zs) : ∃ n : Int, zs = [.int .i64 n] ∧ -9223372036854775808 ≤ n ∧ n ≤ 9223372036854775807 := by
  cases h with
  | int h1 h2 => exact ⟨_, rfl, by simpa [IntKind.min, IntKind.signed, IntKind.bits] using h1, by simpa [IntKind.max, IntKind.signed, IntKind.bits] using h2⟩
theorem fit_str {zs : List AV} (h : Fit .str zs) : ∃ s : Str, zs = [.str s] ∧ s.length ≤ 9223372036854775807 := by
  cases h with
  | str h => exact ⟨_, rfl, h⟩
theorem fit_st {fs : List Sh} {zs : List AV} (h : Fit (.st fs) zs) : Fits fs zs := by
  cases h with
  | st h => exact h
theorem flatMap_eq {α β : Type} {f g : α → List β} : ∀ {l : List α}, (∀ a ∈ l, f a = g a) → l.flatMap f = l.flatMap g
  | [], _ => rfl
  | a :: l, h => by
    rw [List.flatMap_cons, List.flatMap_cons, h a (by simp), flatMap_eq fun b hb => h b (by simp [hb])]
theorem fit_strs {zs : List AV} (h : Fit (.sl .str 1) zs) : ∃ a : Option (List Str), zs = [eS a] := by
  cases h with
  | nil => exact ⟨none, rfl⟩
  | @sl _ _ n g hm hl h =>
    have hg : ∀ i, ∃ s : Str, i < n → g i = [.str s] := fun i => by
      by_cases hi : i < n
      · obtain ⟨s, hs, _⟩ := fit_str (h i hi)
        exact ⟨s, fun _ => hs⟩
      · exact ⟨[], fun h => absurd h hi⟩
    refine ⟨some ((List.range n).map fun i => Classical.choose (hg i)), ?_⟩
    simp only [eS, List.length_map, List.length_range, List.map_map]
    congr 2
    rw [← List.flatMap_singleton' ((List.range n).map _), List.flatMap_map]
    refine flatMap_eq fun i hi => ?_
    rw [Classical.choose_spec (hg i) (List.mem_range.1 hi)]
    rfl
theorem argsFit_cons {s : Sh} {ss : List Sh} {zs : List AV} (h : ArgsFit (s :: ss) zs) : ∃ xs ys, zs = argOf s xs :: ys ∧ Fit s xs ∧ ArgsFit ss ys := by
  cases h with
  | cons h hr => exact ⟨_, _, rfl, h, hr⟩
theorem argsFit_nil {zs : List AV} (h : ArgsFit [] zs) : zs = [] := by cases h; rfl

theorem fit_rows {α : Type} [Inhabited α] {s : Sh} {w : Nat} {f : α → List AV} (hf : ∀ xs, Fit s xs → ∃ a, xs = f a) {zs : List AV} (h : Fit (.sl s w) zs) : zs = [.nils] ∨ ∃ l : List α, zs = [.ro w (l.flatMap f) l.length] := by
  cases h with
  | nil => exact .inl rfl
  | @sl _ _ n g hm hl h =>
    have hg : ∀ i, ∃ a : α, i < n → g i = f a := fun i => by
      by_cases hi : i < n
      · obtain ⟨a, ha⟩ := hf _ (h i hi)
        exact ⟨a, fun _ => ha⟩
      · exact ⟨default, fun h => absurd h hi⟩
    refine .inr ⟨(List.range n).map fun i => Classical.choose (hg i), ?_⟩
    rw [List.length_map, List.length_range, List.flatMap_map]
    congr 2
    exact flatMap_eq fun i hi => Classical.choose_spec (hg i) (List.mem_range.1 hi)
theorem flatMap_one {α : Type} {f : α → AV} : ∀ {l : List α}, l.flatMap (fun a => [f a]) = l.map f
  | [] => rfl
  | a :: l => by rw [List.flatMap_cons, flatMap_one]; rfl
theorem fit_ints {zs : List AV} (h : Fit (.sl (.int .i64) 1) zs) : ∃ a : Option (List Int), zs = [eI a] := by
  rcases fit_rows (f := fun n : Int => [AV.int .i64 n]) (fun xs hx => by obtain ⟨n, hn, _⟩ := fit_int hx; exact ⟨n, hn⟩) h with rfl | ⟨l, rfl⟩
  · exact ⟨none, rfl⟩
  · exact ⟨some l, by rw [flatMap_one]; rfl⟩

def u8s (s : Str) : List AV := s.map fun c => .int .u8 (c.toNat : Int)
theorem asInts_u8s : ∀ s : Str, asInts (u8s s) = some s
  | [] => rfl
  | c :: s => by
    have ih := asInts_u8s s
    unfold u8s at ih ⊢
    rw [List.map_cons, asInts, ih]
    simp
theorem cbs_S1 {h : H} {v : AV} {s : Str} {n : Nat} {B : List Nat} (hs : S1 h 1 v n (u8s s) B) : cbsA h v = some (.str s) := by
  obtain ⟨hl, hs⟩ := hs
  have hn : s.length = n := by
    unfold u8s at hl
    simpa using hl
  rcases hs with ⟨rfl, h0, _⟩ | ⟨b, rfl, _, hc⟩
  · subst h0
    rw [List.eq_nil_of_length_eq_zero hn]
    rfl
  · have hul : (u8s s).length = n := by simpa using hl
    simp only [cbsA, hc, Option.bind_some, if_true]
    rw [if_pos (by omega), List.drop_zero, List.take_of_length_le (by omega), asInts_u8s]
    rfl
def bitC (b : Bool) : UInt8 := if b then 49 else 48
def textB (B n : Nat) : Str := (List.range n).map fun i => bitC (B.testBit i)
theorem textB_len {B n : Nat} : (textB B n).length = n := by simp [textB]
theorem textB_succ {B n : Nat} : u8s (textB B (n + 1)) = u8s (textB B n) ++ [.int .u8 ((bitC (B.testBit n)).toNat : Int)] := by
  simp [u8s, textB, List.range_succ]
def btText (b : Bt) : Str := if b.size = 0 then [45] else textB (numW (lI b.words)) b.size.toNat
theorem btText_len {b : Bt} (h : okBt b = true) : (btText b).length ≤ 4096 := by
  obtain ⟨_, h1, h2, _⟩ := okBt_num h
  unfold btText
  split
  · simp
  · rw [textB_len]
    omega
theorem okBt_hi {b : Bt} (h : okBt b = true) {n i : Nat} (hn : b.size = (n : Int)) (hi : i < n) : i < 16 * (lI b.words).length := by
  obtain ⟨_, h1, h2, h3⟩ := okBt_num h
  omega
def shBits : Sh := .st [.int .i64, .sl (.int .i64) 1]
theorem fit_bits {zs : List AV} (h : Fit shBits zs) : ∃ b, argOf shBits zs = eB b := by
  obtain ⟨x1, y1, rfl, h1, h⟩ := fits_cons (fit_st h)
  obtain ⟨x2, y2, rfl, h2, h⟩ := fits_cons h
  obtain rfl := fits_nil h
  obtain ⟨n, rfl, _⟩ := fit_int h1
  obtain ⟨a, rfl⟩ := fit_ints h2
  exact ⟨⟨n, a⟩, rfl⟩
def imgBV (b : Bt) : AV := if okBt b then sealV ([98, 105, 116, 115, 32] ++ btText b) else .tup [.str [], .bool false]
theorem free_imgBV {b : Bt} : Free (imgBV b) := by
  unfold imgBV
  split
  · exact free_sealV
  · exact free_tup (free_cons_ free_str (free_cons_ free_bool free_nil_))
/-- The loop: what is written so far, behind the box. -/
def TxI (h h' : H) (b : Bt) (v : AV) (i : Nat) : Prop := h.length < h'.length ∧ H.cells h' h.length = some (cB b) ∧ ∃ Bk, S1 h' 1 v i (u8s (textB (numW (lI b.words)) i)) Bk ∧ ∀ c ∈ Bk, h.length < c
theorem TxI.app {h h' : H} {b : Bt} {v : AV} {i : Nat} {x : Int} {by_ : Nat} {pm : Nat → Prop} {Q : AV → H → Prop} (ht : TxI h h' b v i) (hpm : ∀ c, h.length < c → pm c) (hx : x = ((bitC ((numW (lI b.words)).testBit i)).toNat : Int)) (hb : (i + 1) * by_ ≤ 140737488355328)
    (hQ : ∀ v' h'', TxI h h'' b v' (i + 1) → Q v' h'') : apA pm (h' ++ [some (.cells [.int .u8 x])]) Q 1 by_ (some ([.int .u8 x], 1)) v := by
  obtain ⟨t1, t2, Bk, t3, t4⟩ := ht
  have t5 := t3.frame (h' := h' ++ [some (.cells [.int .u8 x])]) fun c hc => List.getElem?_append_left (t3.lt c hc)
  refine t5.app (fun c hc => hpm c (t4 c hc)) rfl (by decide) hb (fun v' h'' B' q1 q2 q3 q4 => hQ v' h'' ⟨?_, ?_, B', ?_, fun c hc => ?_⟩)
  · simp at q2
    omega
  · rw [cells_eq, q3 h.length (by simp; omega) (fun hc => absurd (t4 _ hc) (Nat.lt_irrefl _)), List.getElem?_append_left t1, ← cells_eq]
    exact t2
  · rw [textB_succ, ← hx]
    exact q1
  · rcases q4 c hc with h5 | h5
    · exact t4 c h5
    · simp at h5
      omega

def eU : Option (List UInt8) → AV
  | none => .nils
  | some l => .ro 1 (u8s l) l.length
def lU : Option (List UInt8) → List UInt8
  | none => []
  | some l => l
theorem lenA_eU {l : Option (List UInt8)} : lenA (eU l) = some (.int .i64 (lU l).length) := by cases l <;> rfl
theorem iaddr_eU {l : Option (List UInt8)} {k : IntKind} {n : Int} (h1 : 0 ≤ n) (h2 : n < (lU l).length) : iaddrA 1 (eU l) (.int k n) = some (.rad (u8s (lU l)) n.toNat) := by
  cases l with
  | none => simp [lU] at h2; omega
  | some l => exact (iaddrA_ro h1 h2).trans (by simp [lU])
theorem get_U {l : List UInt8} {i : Nat} (hi : i < l.length) : (u8s l)[i]? = some (.int .u8 ((l.getD i 0).toNat : Int)) := by simp [u8s, hi]
theorem one_eU {l : Option (List UInt8)} : one (eU l) = true := by cases l <;> rfl
theorem cellsOf_eU {l : Option (List UInt8)} : cellsOf (eU l) = [eU l] := by cases l <;> rfl
theorem free_eU {l : Option (List UInt8)} : Free (eU l) := by
  cases l with
  | none => exact free_nils
  | some l => exact free_ro (free_map_ fun _ => free_int)
theorem ok_eU {l : Option (List UInt8)} (h : OkV (eU l)) : (lU l).length ≤ 9223372036854775807 := by
  cases l with
  | none => simp [lU]
  | some l => exact h.ro.1
attribute [push_cast] lenA_eU iaddr_eU get_U one_eU cellsOf_eU
/-- The cursor in block b: what it reads, and how far it may be. -/
def CurI (h : H) (b : Nat) (c : Option (List UInt8)) (K : Nat) : Prop := ∃ (at_ : Nat) (sd : Int), h.cells b = some [eU c, .int .i64 at_, .int .u64 sd] ∧ at_ ≤ K
/-- Nothing else is touched. -/
def CurS (h h' : H) (b : Nat) (c : Option (List UInt8)) (K : Nat) : Prop := h'.length = h.length ∧ (∀ b', b' ≠ b → h'[b']? = h[b']?) ∧ CurI h' b c K
theorem CurI.lt {h : H} {b K : Nat} {c : Option (List UInt8)} (hc : CurI h b c K) : b < h.length := by
  obtain ⟨a, s, h1, _⟩ := hc
  exact cells_lt h1
theorem CurI.frame {h h' : H} {b K : Nat} {c : Option (List UInt8)} (hc : CurI h b c K) (hk : h'[b]? = h[b]?) : CurI h' b c K := by
  obtain ⟨a, s, h1, h2⟩ := hc
  exact ⟨a, s, by rw [cells_eq, hk, ← cells_eq]; exact h1, h2⟩
theorem CurI.mono {h : H} {b K K' : Nat} {c : Option (List UInt8)} (hc : CurI h b c K) (hk : K ≤ K') : CurI h b c K' := by
  obtain ⟨a, s, h1, h2⟩ := hc
  exact ⟨a, s, h1, by omega⟩
theorem and255 (x : Int) : 0 ≤ bitsI .and .u64 x 255 ∧ bitsI .and .u64 x 255 ≤ 255 := by
  have h1 : (BitVec.ofInt 64 x &&& BitVec.ofInt 64 255).toNat ≤ 255 := by
    rw [BitVec.toNat_and]
    exact Nat.le_trans Nat.and_le_right (by decide)
  have h2 : bitsI .and .u64 x 255 = ((BitVec.ofInt 64 x &&& BitVec.ofInt 64 255).toNat : Int) := by
    show IntKind.u64.wrap ((BitVec.ofInt 64 x &&& BitVec.ofInt 64 255).toNat : Int) = _
    rw [IntKind.wrap_u64]
    omega
  rw [h2]
  omega
theorem wrap_and255 (x : Int) : IntKind.i64.wrap (bitsI .and .u64 x 255) = bitsI .and .u64 x 255 := wrap_ok (by have := and255 x; omega) (by have := and255 x; omega)
theorem cells_wr {h : H} {b : Nat} (hb : b < h.length) (cs : List AV) : H.cells (wr h b cs) b = some cs := by
  rw [cells_eq]
  unfold wr
  rw [List.getElem?_set_self hb]
  rfl
theorem wr_wr {h : H} {b : Nat} (cs cs' : List AV) : wr (wr h b cs) b cs' = wr h b cs' := by
  unfold wr
  rw [List.set_set]
/-- The text that is drawn, so far: behind the cursor. -/
def PlI (h0 h' : H) (b : Nat) (c : Option (List UInt8)) (K : Nat) (v : AV) (s : Str) : Prop :=
  h0.length ≤ h'.length ∧ b < h0.length ∧ CurI h' b c K ∧ ∃ B, S1 h' 1 v s.length (u8s s) B ∧ ∀ x ∈ B, h0.length ≤ x
theorem PlI.step {h0 h' h2 : H} {b K K' : Nat} {c : Option (List UInt8)} {v : AV} {s : Str} (hp : PlI h0 h' b c K v s) (hs : CurS h' h2 b c K') : PlI h0 h2 b c K' v s := by
  obtain ⟨p1, p2, _, B, p3, p4⟩ := hp
  obtain ⟨s1, s2, s3⟩ := hs
  exact ⟨by omega, p2, s3, B, p3.frame fun x hx => s2 x (fun he => by have := p4 x hx; omega), p4⟩
theorem PlI.app {h0 h' : H} {b K by_ : Nat} {c : Option (List UInt8)} {v : AV} {s : Str} {x : Int} {ch : UInt8} {pm : Nat → Prop} {Q : AV → H → Prop} (hp : PlI h0 h' b c K v s) (hpm : ∀ x, h0.length ≤ x → pm x) (hx : x = (ch.toNat : Int)) (hb : (s.length + 1) * by_ ≤ 140737488355328)
    (hQ : ∀ v' h'', PlI h0 h'' b c K v' (s ++ [ch]) → Q v' h'') : apA pm (h' ++ [some (.cells [.int .u8 x])]) Q 1 by_ (some ([.int .u8 x], 1)) v := by
  obtain ⟨p1, p2, p3, B, p4, p5⟩ := hp
  have p6 := p4.frame (h' := h' ++ [some (.cells [.int .u8 x])]) fun y hy => List.getElem?_append_left (p4.lt y hy)
  refine p6.app (fun y hy => hpm y (p5 y hy)) rfl (by decide) hb (fun v' h'' B' q1 q2 q3 q4 => hQ v' h'' ⟨?_, p2, p3.frame ?_, B', ?_, fun y hy => ?_⟩)
  · simp at q2
    omega
  · rw [q3 b (by simp; omega) (fun hy => by have := p5 b hy; omega), List.getElem?_append_left p3.lt]
  · have e1 : u8s (s ++ [ch]) = u8s s ++ [.int .u8 x] := by simp [u8s, hx]
    rw [e1]
    simpa using q1
  · rcases q4 y hy with h5 | h5
    · exact p5 y h5
    · simp at h5
      omega
theorem PlI.more {h0 h' l : H} {b K : Nat} {c : Option (List UInt8)} {v : AV} {s : Str} (hp : PlI h0 h' b c K v s) : PlI h0 (h' ++ l) b c K v s := by
  obtain ⟨p1, p2, p3, B, p4, p5⟩ := hp
  exact ⟨by simp; omega, p2, p3.frame (List.getElem?_append_left p3.lt), B, p4.frame fun x hx => List.getElem?_append_left (p4.lt x hx), p5⟩
theorem PlI.monoK {h0 h' : H} {b K K' : Nat} {c : Option (List UInt8)} {v : AV} {s : Str} (hp : PlI h0 h' b c K v s) (hk : K ≤ K') : PlI h0 h' b c K' v s := by
  obtain ⟨p1, p2, p3, p4⟩ := hp
  exact ⟨p1, p2, p3.mono hk, p4⟩
theorem PlI.lenA {h0 h' : H} {b K : Nat} {c : Option (List UInt8)} {v : AV} {s : Str} (hp : PlI h0 h' b c K v s) : lenA v = some (.int .i64 s.length) := by
  obtain ⟨p1, p2, p3, B, ⟨_, p4⟩, p5⟩ := hp
  rcases p4 with ⟨rfl, h0, _⟩ | ⟨b, rfl, _, _⟩
  · rw [h0]; rfl
  · rfl
theorem PlI.cbs {h0 h' : H} {b K : Nat} {c : Option (List UInt8)} {v : AV} {s : Str} (hp : PlI h0 h' b c K v s) : cbsA h' v = some (.str s) := by
  obtain ⟨p1, p2, p3, B, p4, p5⟩ := hp
  exact cbs_S1 p4
theorem over4 (x0 x1 x2 x3 y : AV) : over [x0, x1, x2, x3] 0 [y] = [y, x1, x2, x3] ∧ over [x0, x1, x2, x3] 1 [y] = [x0, y, x2, x3] ∧ over [x0, x1, x2, x3] 2 [y] = [x0, x1, y, x3] ∧ over [x0, x1, x2, x3] 3 [y] = [x0, x1, x2, y] := ⟨rfl, rfl, rfl, rfl⟩

theorem c_spec_l1Cur_next (b : Nat) (c : Option (List UInt8)) (K : Nat) (h : H) (hc : CurI h b c K) (hK : K ≤ 1000000000) :
    Call Try.prog 123 [.adr b 0] h (fun b' => b' = b) (fun x h' => (∃ n : Int, x = .int .i64 n ∧ 0 ≤ n ∧ n ≤ 255) ∧ CurS h h' b c (K + 1)) := by
  refine enter (by kernel_rfl) e123 (by kernel_rfl) rfl fun hok => ?_
  simp only [r123, initEnv_1]
  obtain ⟨a, sd, hcs, ha⟩ := hc
  have hlt := cells_lt hcs
  have hpm : (b = b) = True := by simp
  have hw1 := fun cs => cells_wr hlt cs
  have hw2 := fun cs cs' => wr_wr (h := h) (b := b) cs cs'
  have fin : ∀ (sd' : Int), CurS h (wr h b [eU c, .int .i64 ((a : Int) + 1), .int .u64 sd']) b c (K + 1) := fun sd' => by
    refine ⟨by simp [wr], fun b' hb' => ?_, a + 1, sd', ?_, by omega⟩
    · unfold wr
      rw [List.getElem?_set_ne (Ne.symm hb')]
    · rw [cells_wr hlt]
      simp
  by_cases hlt2 : a < (lU c).length
  · have hcb : ((lU c).getD a 0).toNat < 256 := UInt8.toNat_lt _
    (try (simp (disch := first | omega | (simp <;> omega) | fail) only [push_cast, ↓reduceIte, Nat.reduceEqDiff, Nat.reduceAdd, Nat.reduceMul, Nat.reduceSub, Nat.reduceLT, Int.reduceToNat, hcs, hpm, hw1, hw2]))
    all_goals (try exact ⟨⟨_, rfl, by omega, by omega⟩, fin _⟩)
  · (try (simp (disch := first | omega | (simp <;> omega) | fail) only [push_cast, ↓reduceIte, Nat.reduceEqDiff, Nat.reduceAdd, Nat.reduceMul, Nat.reduceSub, Nat.reduceLT, Int.reduceToNat, hcs, hpm, hw1, hw2, wrap_and255]))
    all_goals (try exact ⟨⟨_, rfl, (and255 _).1, (and255 _).2⟩, fin _⟩)

theorem c_spec_l1Cur_pick (b : Nat) (c : Option (List UInt8)) (K : Nat) (h : H) (n : Int) (hc : CurI h b c K) (hK : K ≤ 1000000000) (hn : 1 < n) (hn2 : n ≤ 200) :
    Call Try.prog 110 [.adr b 0, .int .i64 n] h (fun b' => b' = b) (fun x h' => (∃ m : Int, x = .int .i64 m ∧ 0 ≤ m ∧ m < n) ∧ CurS h h' b c (K + 1)) := by
  refine enter (by kernel_rfl) e110 (by kernel_rfl) rfl fun hok => ?_
  simp only [r110, initEnv_2]
  (try (simp (disch := first | omega | (simp <;> omega) | fail) only [push_cast, ↓reduceIte, Nat.reduceEqDiff, Nat.reduceAdd, Nat.reduceMul, Nat.reduceSub, Nat.reduceLT, Int.reduceToNat]))
  refine (c_spec_l1Cur_next b c K h hc hK).mono (fun x h' hx => ?_) (fun b' _ hb' => Or.inl hb')
  obtain ⟨⟨m, rfl, m0, m1⟩, hs⟩ := hx
  have h1 := Int.emod_nonneg m (show n ≠ 0 by omega)
  have h2 := Int.emod_lt_of_pos m (show 0 < n by omega)
  (try (simp (disch := first | omega | (simp <;> omega) | fail) only [push_cast, ↓reduceIte, Nat.reduceEqDiff, Nat.reduceAdd, Nat.reduceMul, Nat.reduceSub, Nat.reduceLT, Int.reduceToNat]))
  all_goals (try exact ⟨⟨_, rfl, h1, h2⟩, hs⟩)

def PickR (n m : Int) : Prop := 0 ≤ m ∧ (m < n ∨ m = 0)

theorem c_spec_l1Cur_pickAny (b : Nat) (c : Option (List UInt8)) (K : Nat) (h : H) (n : Int) (hc : CurI h b c K) (hK : K ≤ 1000000000) (hn2 : n ≤ 200) :
    Call Try.prog 110 [.adr b 0, .int .i64 n] h (fun b' => b' = b) (fun x h' => (∃ m : Int, x = .int .i64 m ∧ PickR n m) ∧ CurS h h' b c (K + 1)) := by
  by_cases hn : 1 < n
  · exact (c_spec_l1Cur_pick b c K h n hc hK hn hn2).mono (fun x h' hx => by
      obtain ⟨⟨m, rfl, m0, m1⟩, hs⟩ := hx
      exact ⟨⟨m, rfl, m0, .inl m1⟩, hs⟩) (fun _ _ h => h)
  · refine enter (by kernel_rfl) e110 (by kernel_rfl) rfl fun hok => ?_
    simp only [r110, initEnv_2]
    have hs : CurS h h b c (K + 1) := ⟨rfl, fun _ _ => rfl, hc.mono (by omega)⟩
    (try (simp (disch := first | omega | (simp <;> omega) | fail) only [push_cast, ↓reduceIte, Nat.reduceEqDiff, Nat.reduceAdd, Nat.reduceMul, Nat.reduceSub, Nat.reduceLT, Int.reduceToNat]))
    all_goals (try exact ⟨⟨_, rfl, Int.le_refl _, .inr rfl⟩, hs⟩)
theorem c_spec_l1Cur_place (b : Nat) (c : Option (List UInt8)) (K : Nat) (h : H) (n : Nat) (hc : CurI h b c K) (hK : K ≤ 1000000000) (hn2 : n ≤ 190) :
    Call Try.prog 95 [.adr b 0, .int .i64 n] h (fun b' => b' = b) (fun x h' => (∃ m : Int, x = .int .i64 m ∧ -1 ≤ m ∧ m ≤ 200) ∧ CurS h h' b c (K + 1)) := by
  refine enter (by kernel_rfl) e95 (by kernel_rfl) rfl fun hok => ?_
  simp only [r95, initEnv_2]
  (try (simp (disch := first | omega | (simp <;> omega) | fail) only [push_cast, ↓reduceIte, Nat.reduceEqDiff, Nat.reduceAdd, Nat.reduceMul, Nat.reduceSub, Nat.reduceLT, Int.reduceToNat]))
  refine (c_spec_l1Most n 0).call ?_
  have h1 : (if (0 : Int) < (n : Int) then (n : Int) else 0) = n := by split <;> omega
  rw [h1]
  (try (simp (disch := first | omega | (simp <;> omega) | fail) only [push_cast, ↓reduceIte, Nat.reduceEqDiff, Nat.reduceAdd, Nat.reduceMul, Nat.reduceSub, Nat.reduceLT, Int.reduceToNat]))
  refine (c_spec_l1Cur_pickAny b c K h ((n : Int) + 4) hc hK (by omega)).mono (fun x h' hx => ?_) (fun b' _ hb' => Or.inl hb')
  obtain ⟨⟨m, rfl, m0, m1⟩, hs⟩ := hx
  (try (simp (disch := first | omega | (simp <;> omega) | fail) only [push_cast, ↓reduceIte, Nat.reduceEqDiff, Nat.reduceAdd, Nat.reduceMul, Nat.reduceSub, Nat.reduceLT, Int.reduceToNat]))
  all_goals (try exact ⟨⟨_, rfl, by omega, by omega⟩, hs⟩)

theorem c_spec_l1Least (a b : Int) : Fn Try.prog 117 [.int .i64 a, .int .i64 b] (· = .int .i64 (if a < b then a else b)) := by
  refine Fn.of free_int fun h => ?_
  refine enter (by kernel_rfl) e117 (by kernel_rfl) rfl fun hok => ?_
  simp only [r117, initEnv_2]
  (try (simp (disch := first | omega | (simp <;> omega) | fail) only [push_cast, ↓reduceIte, Nat.reduceEqDiff, Nat.reduceAdd, Nat.reduceMul, Nat.reduceSub, Nat.reduceLT, Int.reduceToNat]))
  first | refine goC_split (fun hc => ?_) (fun hc => ?_) | refine cnd_split (fun hc => ?_) (fun hc => ?_)
  · (try (simp only [decide_eq_true_eq, decide_eq_false_iff_not, Bool.not_eq_true', Bool.not_eq_false', Bool.and_eq_true, Bool.or_eq_true, Int.not_lt, Int.not_le] at hc)); (try (simp (disch := first | omega | (simp <;> omega) | fail) only [push_cast, ↓reduceIte, Nat.reduceEqDiff, Nat.reduceAdd, Nat.reduceMul, Nat.reduceSub, Nat.reduceLT, Int.reduceToNat]))
    all_goals (try rw [if_pos hc])
  · (try (simp only [decide_eq_true_eq, decide_eq_false_iff_not, Bool.not_eq_true', Bool.not_eq_false', Bool.and_eq_true, Bool.or_eq_true, Int.not_lt, Int.not_le] at hc)); (try (simp (disch := first | omega | (simp <;> omega) | fail) only [push_cast, ↓reduceIte, Nat.reduceEqDiff, Nat.reduceAdd, Nat.reduceMul, Nat.reduceSub, Nat.reduceLT, Int.reduceToNat]))
    all_goals (try rw [if_neg (by omega)])

theorem c_spec_l1Clip (a b : Int) (hb : 0 ≤ b) : Fn Try.prog 93 [.int .i64 a, .int .i64 b] (fun x => ∃ n : Nat, x = .int .i64 n ∧ (n : Int) ≤ b) := by
  intro h
  refine Call.gc (Call.mono (?_ : Call Try.prog 93 [.int .i64 a, .int .i64 b] h Nowhere (fun x _ => ∃ n : Nat, x = .int .i64 n ∧ (n : Int) ≤ b)) (fun x _ ⟨n, hn, hx⟩ => ⟨⟨n, hn, hx⟩, by rw [hn]; exact free_int⟩) (fun _ _ h => h))
  refine enter (by kernel_rfl) e93 (by kernel_rfl) rfl fun hok => ?_
  simp only [r93, initEnv_2]
  (try (simp (disch := first | omega | (simp <;> omega) | fail) only [push_cast, ↓reduceIte, Nat.reduceEqDiff, Nat.reduceAdd, Nat.reduceMul, Nat.reduceSub, Nat.reduceLT, Int.reduceToNat]))
  refine (c_spec_l1Least a b).call ?_
  (try (simp (disch := first | omega | (simp <;> omega) | fail) only [push_cast, ↓reduceIte, Nat.reduceEqDiff, Nat.reduceAdd, Nat.reduceMul, Nat.reduceSub, Nat.reduceLT, Int.reduceToNat]))
  refine (c_spec_l1Most 0 _).call ?_
  (try (simp (disch := first | omega | (simp <;> omega) | fail) only [push_cast, ↓reduceIte, Nat.reduceEqDiff, Nat.reduceAdd, Nat.reduceMul, Nat.reduceSub, Nat.reduceLT, Int.reduceToNat]))
  by_cases h1 : a < b
  · rw [if_pos h1]
    by_cases h2 : a < 0
    · rw [if_pos h2]
      exact ⟨0, rfl, by simpa using hb⟩
    · rw [if_neg h2]
      exact ⟨a.toNat, by rw [Int.toNat_of_nonneg (by omega)], by omega⟩
  · rw [if_neg h1]
    by_cases h2 : b < 0
    · omega
    · rw [if_neg h2]
      exact ⟨b.toNat, by rw [Int.toNat_of_nonneg (by omega)], by omega⟩

theorem c_spec_l1Cur_one (b : Nat) (c : Option (List UInt8)) (K : Nat) (h : H) (n : Int) (hc : CurI h b c K) (hK : K ≤ 1000000000) (hn : 1 < n) (hn2 : n ≤ 200) :
    Call Try.prog 84 [.adr b 0, .int .i64 n] h (fun b' => b' = b) (fun x h' => (∃ t : Bool, x = .bool t) ∧ CurS h h' b c (K + 1)) := by
  refine enter (by kernel_rfl) e84 (by kernel_rfl) rfl fun hok => ?_
  simp only [r84, initEnv_2]
  (try (simp (disch := first | omega | (simp <;> omega) | fail) only [push_cast, ↓reduceIte, Nat.reduceEqDiff, Nat.reduceAdd, Nat.reduceMul, Nat.reduceSub, Nat.reduceLT, Int.reduceToNat]))
  refine (c_spec_l1Cur_pick b c K h n hc hK hn hn2).mono (fun x h' hx => ?_) (fun b' _ hb' => Or.inl hb')
  obtain ⟨⟨m, rfl, m0, m1⟩, hs⟩ := hx
  by_cases hz : m = 0
  · (try (simp (disch := first | omega | (simp <;> omega) | fail) only [push_cast, ↓reduceIte, Nat.reduceEqDiff, Nat.reduceAdd, Nat.reduceMul, Nat.reduceSub, Nat.reduceLT, Int.reduceToNat, hz]))
    all_goals (try exact ⟨⟨_, rfl⟩, hs⟩)
  · (try (simp (disch := first | omega | (simp <;> omega) | fail) only [push_cast, ↓reduceIte, Nat.reduceEqDiff, Nat.reduceAdd, Nat.reduceMul, Nat.reduceSub, Nat.reduceLT, Int.reduceToNat, hz]))
    all_goals (try exact ⟨⟨_, rfl⟩, hs⟩)

/-- A vector of a list of bits, in memory of the call's own. -/
theorem c_spec_biSome (o : Option (List Bool)) (m : Nat) (hm : ((((lO o).length : Int)) + 15) / 16 = (m : Int)) (hl : (lO o).length ≤ 1000) (h : H) : Call Try.prog 124 [eO o] h Nowhere (fun x h' => ∃ bb B, x = .agg [.int .i64 (lO o).length, .sl bb 0 1 m m] ∧ h.length ≤ bb ∧ h.length ≤ h'.length ∧ (∀ c, c < h.length → h'[c]? = h[c]?) ∧ h'.cells bb = some ((wordsN B m).map (.int .i64))) := by
  refine enter (by kernel_rfl) e124 (by kernel_rfl) rfl fun hok => ?_
  simp only [r124, initEnv_1]
  (try (simp (disch := first | omega | (simp <;> omega) | fail) only [push_cast, ↓reduceIte, Nat.reduceEqDiff, Nat.reduceAdd, Nat.reduceMul, Nat.reduceSub, Nat.reduceLT, Int.reduceToNat]))
  refine (c_spec_biNew_own (lO o).length m (by omega) hm _).mono (fun x h1 hx => ?_) (fun _ _ h => h.elim)
  obtain ⟨bb, rfl, hbb, ⟨p, hp1⟩, hcb⟩ := hx
  simp only [List.length_append, List.length_cons, List.length_nil] at hbb
  have hl1 : h.length + 1 ≤ h1.length := by rw [hp1]; simp
  have hk1 : ∀ c, c < h.length → h1[c]? = h[c]? := fun c hc => by
    rw [hp1, List.append_assoc]
    exact List.getElem?_append_left hc
  have hc0 : h1.cells h.length = some [.int .i64 0, .nils] := by
    rw [hp1]
    refine cells_app ?_
    rw [cells_h0]
    rfl
  have hbl1 := cells_lt hcb
  clear hp1
  (try (simp (disch := first | omega | (simp <;> omega) | fail) only [push_cast, ↓reduceIte, Nat.reduceEqDiff, Nat.reduceAdd, Nat.reduceMul, Nat.reduceSub, Nat.reduceLT, Int.reduceToNat]))
  refine T_for (lO o).length (fun i e h' => ∃ B, Pins e [(2, .adr h.length 0), (3, .adr h1.length 0), (9, eO o), (10, .int .i64 (lO o).length), (11, .int .i64 i)] ∧ h1.length < h'.length ∧ (∀ c, c < h.length → h'[c]? = h[c]?) ∧ h'.cells h.length = some [.int .i64 0, .nils] ∧ h'.cells h1.length = some [.int .i64 (lO o).length, .sl bb 0 1 m m] ∧ h'.cells bb = some ((wordsN B m).map (.int .i64))) ?_ ?_
  · (try (simp (disch := first | omega | (simp <;> omega) | fail) only [push_cast, ↓reduceIte, Nat.reduceEqDiff, Nat.reduceAdd, Nat.reduceMul, Nat.reduceSub, Nat.reduceLT, Int.reduceToNat]))
    all_goals (try exact ⟨0, by simp, fun c hc => (List.getElem?_append_left (by omega)).trans (hk1 c hc), cells_app hc0, cells_app hcb⟩)
    all_goals (try exact ⟨0, fun c hc => (List.getElem?_append_left (by omega)).trans (hk1 c hc), hc0, hcb⟩)
    all_goals (try exact ⟨0, by simp, fun c hc => (List.getElem?_append_left (by omega)).trans (hk1 c hc), cells_app hc0, by rw [cells_h0]; rfl, cells_app hcb⟩)
  rintro i e h' hi ⟨B, hp, q1, q2, q3, q4, q5⟩
  refine T_pins hp fun e => ?_
  (try (simp (disch := first | omega | (simp <;> omega) | fail) only [push_cast, ↓reduceIte, Nat.reduceEqDiff, Nat.reduceAdd, Nat.reduceMul, Nat.reduceSub, Nat.reduceLT, Int.reduceToNat]))
  first | refine goC_split (fun hc => ?_) (fun hc => ?_) | refine cnd_split (fun hc => ?_) (fun hc => ?_)
  · (try (simp only [decide_eq_true_eq, decide_eq_false_iff_not, Bool.not_eq_true', Bool.not_eq_false', Bool.and_eq_true, Bool.or_eq_true, Int.not_lt, Int.not_le] at hc)); (try (simp (disch := first | omega | (simp <;> omega) | fail) only [push_cast, ↓reduceIte, Nat.reduceEqDiff, Nat.reduceAdd, Nat.reduceMul, Nat.reduceSub, Nat.reduceLT, Int.reduceToNat]))
    have hi2 : i < (lO o).length := by omega
    cases hb : (lO o).getD i false
    · (try (simp (disch := first | omega | (simp <;> omega) | fail) only [push_cast, ↓reduceIte, Nat.reduceEqDiff, Nat.reduceAdd, Nat.reduceMul, Nat.reduceSub, Nat.reduceLT, Int.reduceToNat, hb]))
      all_goals (try exact ⟨B, q2, q3, q4, q5⟩)
    · (try (simp (disch := first | omega | (simp <;> omega) | fail) only [push_cast, ↓reduceIte, Nat.reduceEqDiff, Nat.reduceAdd, Nat.reduceMul, Nat.reduceSub, Nat.reduceLT, Int.reduceToNat, hb, q4]))
      refine (c_spec_biSet (lO o).length bb m B i h' q5 (by omega) (by omega)).mono (fun y h2 hy => ?_) (fun b' _ hb' => Or.inr (by omega))
      obtain ⟨y1, y2, y3⟩ := hy
      have r2 : ∀ c, c < h.length → h2[c]? = h[c]? := fun c hc => (y2 c (by omega) (by omega)).trans (q2 c hc)
      have r3 := cells_keep (y2 h.length (by omega) (by omega)) q3
      have r4 := cells_keep (y2 h1.length (by omega) (by omega)) q4
      (try (simp (disch := first | omega | (simp <;> omega) | fail) only [push_cast, ↓reduceIte, Nat.reduceEqDiff, Nat.reduceAdd, Nat.reduceMul, Nat.reduceSub, Nat.reduceLT, Int.reduceToNat]))
      all_goals (try exact ⟨_, r2, r3, r4, y3⟩)
  · (try (simp only [decide_eq_true_eq, decide_eq_false_iff_not, Bool.not_eq_true', Bool.not_eq_false', Bool.and_eq_true, Bool.or_eq_true, Int.not_lt, Int.not_le] at hc)); (try (simp (disch := first | omega | (simp <;> omega) | fail) only [push_cast, ↓reduceIte, Nat.reduceEqDiff, Nat.reduceAdd, Nat.reduceMul, Nat.reduceSub, Nat.reduceLT, Int.reduceToNat]))
    have hw := cells_wr2 (cells_lt q3) (cs := [AV.int .i64 ((lO o).length : Int), .sl bb 0 1 m m])
    have hpm : (h.length ≤ h.length) = True := by simp
    have f1 : h.length ≤ (wr h' h.length [AV.int .i64 ((lO o).length : Int), .sl bb 0 1 m m]).length := by simp [wr]; omega
    have f2 : ∀ c, c < h.length → (wr h' h.length [AV.int .i64 ((lO o).length : Int), .sl bb 0 1 m m])[c]? = h[c]? := fun c hc => by
      unfold wr
      rw [List.getElem?_set_ne (by omega)]
      exact q2 c hc
    have f3 : (wr h' h.length [AV.int .i64 ((lO o).length : Int), .sl bb 0 1 m m]).cells bb = some ((wordsN B m).map (.int .i64)) := by
      rw [cells_eq]
      unfold wr
      rw [List.getElem?_set_ne (by omega), ← cells_eq]
      exact q5
    (try (simp (disch := first | omega | (simp <;> omega) | fail) only [push_cast, ↓reduceIte, Nat.reduceEqDiff, Nat.reduceAdd, Nat.reduceMul, Nat.reduceSub, Nat.reduceLT, Int.reduceToNat, q3, q4, hpm, hw]))
    all_goals (try exact ⟨bb, B, rfl, by omega, f1, f2, f3⟩)
    all_goals (try exact ⟨bb, B, rfl, by omega, f2, f3⟩)

/-- A list of structs that grows, with the blocks that it may hold told by G. -/
def OwG (h : H) (G : Nat → Prop) (sz : Nat) (v : AV) (k : Nat) (ts : List AV) : Prop := (v = .nils ∧ k = 0 ∧ ts = []) ∨ Ow h [v] [.ro sz ts k] G
theorem OwG.mono {h : H} {G G' : Nat → Prop} {sz k : Nat} {v : AV} {ts : List AV} (ho : OwG h G sz v k ts) (hG : ∀ c, G c → G' c) : OwG h G' sz v k ts := by
  rcases ho with h0 | ho
  · exact .inl h0
  · exact .inr (ho.mono hG)
theorem OwG.frame {h h' : H} {G : Nat → Prop} {sz k : Nat} {v : AV} {ts : List AV} (ho : OwG h G sz v k ts) (hk : ∀ c, G c → h'[c]? = h[c]?) : OwG h' G sz v k ts := by
  rcases ho with h0 | ho
  · exact .inl h0
  · exact .inr (ho.frame hk)
theorem OwG.cell {h : H} {G : Nat → Prop} {sz k : Nat} {v : AV} {ts : List AV} (ho : OwG h G sz v k ts) : one v = true ∧ cellsOf v = [v] := by
  rcases ho with ⟨rfl, _, _⟩ | ho
  · exact ⟨rfl, rfl⟩
  · obtain ⟨b, rfl⟩ := ho.sl1
    exact ⟨rfl, rfl⟩
theorem OwG.app {h h2 : H} {G : Nat → Prop} {sz k by_ : Nat} {v : AV} {ts new nt : List AV} {pm : Nat → Prop} {Q : AV → H → Prop} (ho : OwG h G sz v k ts) (hpm : ∀ b, G b → pm b) (hl : h.length ≤ h2.length) (hk : ∀ c, G c → h2[c]? = h[c]?)
    (hn : Ow h2 new nt fun c => h.length ≤ c) (hsz : new.length = sz) (h1 : nt.all one = true) (hb : (k + 1) * by_ ≤ 140737488355328)
    (hQ : ∀ v' h', Ow h' [v'] [.ro sz (ts ++ nt) (k + 1)] (fun c => G c ∨ h.length ≤ c) → h2.length ≤ h'.length → (∀ c, c < h2.length → ¬ G c → h'[c]? = h2[c]?) → v' ≠ .nils → Q v' h') : apA pm h2 Q sz by_ (some (new, 1)) v := by
  have hnl := hn.len
  obtain ⟨V, v1, v2, v3⟩ := hn.exact_ (n0 := 0) (fun _ _ => Nat.zero_le _)
  have hV : ∀ c, V c → c < h2.length := fun c hc => by
    obtain ⟨l, hl, _⟩ := v2 c hc
    exact cells_lt hl
  rcases ho with ⟨rfl, rfl, rfl⟩ | ho
  · rw [apA_nil (by decide)]
    refine ⟨by simpa using hb, hQ _ _ ?_ (by simp) (fun c hc _ => List.getElem?_append_left hc) (by simp)⟩
    refine .sl (b := h2.length) (cs := new) (F := V) (F' := fun _ => False) (by rw [cells_h0]; rfl) (by omega) (by simpa using h1) (v3 _ fun c hc => List.getElem?_append_left (hV c hc)) .nil (.inr hl) (fun c hc => ⟨.inr (v1 c hc), by have := hV c hc; omega⟩) (fun c hc => hc.elim)
  · obtain ⟨b, cs, F, rfl, hc, hcl, hbn, hF, hin, hre⟩ := ho.open_
    have hbl := cells_lt hc
    obtain ⟨U, u1, u2, u3⟩ := hin.exact_ (n0 := 0) (fun _ _ => Nat.zero_le _)
    have hU : ∀ c, U c → c < h.length := fun c hc => by
      obtain ⟨l, hl, _⟩ := u2 c hc
      exact cells_lt hl
    have hc2 : h2.cells b = some cs := cells_keep_ (hk b hbn) hc
    have htsone : ts.all one = true := by
      cases ho with
      | sl _ _ h1 _ _ _ _ _ => exact h1
    rw [apA_sl, hc2, apC_grow (by decide) (by omega)]
    refine ⟨by omega, hpm b hbn, hb, ?_⟩
    have htk : (cs.drop 0).take (k * sz) = cs := by rw [List.drop_zero, ← hcl, List.take_length]
    rw [htk]
    have hg : ∀ c, c < h2.length → c ≠ b → (killed h2 b ++ [some (.cells (cs ++ new))])[c]? = h2[c]? := fun c hc hne => by
      rw [List.getElem?_append_left (by simpa [killed] using hc)]
      unfold killed
      exact List.getElem?_set_ne (Ne.symm hne)
    refine hQ _ _ ?_ (by simp [killed]) (fun c hc hn => hg c hc (fun he => hn (by rw [he]; exact hbn))) (by simp)
    have A := u3 (killed h2 b ++ [some (.cells (cs ++ new))]) fun c hc => (hg c (by have := hU c hc; omega) (hF c (u1 c hc)).2).trans (hk c (hF c (u1 c hc)).1)
    have B := v3 (killed h2 b ++ [some (.cells (cs ++ new))]) fun c hc => hg c (hV c hc) (by have := v1 c hc; omega)
    refine .sl (b := h2.length) (cs := cs ++ new) (F := fun c => U c ∨ V c) (F' := fun _ => False) ?_ ?_ ?_ (A.app B (fun c hc => .inl hc) (fun c hc => ⟨.inr hc, fun hu => by have := hU c hu; have := v1 c hc; omega⟩)) .nil (.inr hl) ?_ (fun c hc => hc.elim)
    · rw [cells_eq, List.getElem?_append_right (by simp [killed])]
      simp [killed, cellsO]
    · rw [List.length_append, hcl, hsz, Nat.succ_mul]
    · rw [List.all_append, Bool.and_eq_true]
      exact ⟨htsone, h1⟩
    · rintro c (hc | hc)
      · exact ⟨.inl (hF c (u1 c hc)).1, by have := hU c hc; omega⟩
      · exact ⟨.inr (v1 c hc), by have := hV c hc; omega⟩

theorem S1.vwB {h : H} {n0 : Nat} {v : AV} {l : List Bool} {B : List Nat} {n : Nat} (hs : S1 h 1 v n (l.map .bool) B) (hb : ∀ b ∈ B, n0 ≤ b) (hnn : v ≠ .nils) : Vw h n0 v (eO (some l)) := by
  have hvw := hs.vw (ts := l.map .bool) hb rfl (one_map fun _ => rfl) (fun i y t hy ht => by
    rw [hy] at ht
    injection ht with ht
    subst ht
    obtain ⟨s, _, rfl⟩ := List.mem_map.1 (List.mem_of_getElem? hy)
    exact .free free_bool)
  rcases hvw with ⟨_, h0, _⟩ | ⟨_, hv⟩
  · exact absurd h0 hnn
  · have : l.length = n := by simpa using hs.1
    subst this
    exact hv
theorem S1.vwB0 {h : H} {n0 n : Nat} {v : AV} {l : List Bool} {B : List Nat} (hs : S1 h 1 v n (l.map .bool) B) (hb : ∀ b ∈ B, n0 ≤ b) : ∃ o, Vw h n0 v (eO o) ∧ lO o = l := by
  by_cases hn : v = .nils
  · subst hn
    rcases hs.2 with ⟨_, h0, _⟩ | ⟨b, hh, _⟩
    · have hl : l = [] := List.eq_nil_of_length_eq_zero (by have := hs.1; simp at this; omega)
      exact ⟨none, .free free_nils, hl.symm⟩
    · cases hh
  · exact ⟨some l, hs.vwB hb hn, rfl⟩

/-- The bits that are drawn, so far. -/
def BdI (h h' : H) (b : Nat) (c : Option (List UInt8)) (K : Nat) (v : AV) (L : List Bool) : Prop :=
  h.length < h'.length ∧ b < h.length ∧ CurI h' b c K ∧ h'.cells h.length = some [.int .i64 0, .nils] ∧ (∀ k, k < h.length → k ≠ b → h'[k]? = h[k]?) ∧ ∃ B, S1 h' 1 v L.length (L.map .bool) B ∧ ∀ k ∈ B, h.length + 1 ≤ k
theorem BdI.step {h h' h2 : H} {b K K' : Nat} {c : Option (List UInt8)} {v : AV} {L : List Bool} (hp : BdI h h' b c K v L) (hs : CurS h' h2 b c K') : BdI h h2 b c K' v L := by
  obtain ⟨p1, p2, p3, p4, p5, B, p6, p7⟩ := hp
  obtain ⟨s1, s2, s3⟩ := hs
  exact ⟨by omega, p2, s3, cells_keep (s2 _ (by omega)) p4, fun k hk hn => (s2 k hn).trans (p5 k hk hn), B, p6.frame fun k hk => s2 k (by have := p7 k hk; omega), p7⟩
theorem BdI.app {h h' : H} {b K : Nat} {c : Option (List UInt8)} {v : AV} {L : List Bool} {q : Bool} {pm : Nat → Prop} {Q : AV → H → Prop} (hp : BdI h h' b c K v L) (hpm : ∀ k, h.length ≤ k → pm k) (hb : (L.length + 1) * 1 ≤ 140737488355328)
    (hQ : ∀ v' h2, BdI h h2 b c K v' (L ++ [q]) → Q v' h2) : apA pm (h' ++ [some (.cells [.bool q])]) Q 1 1 (some ([.bool q], 1)) v := by
  obtain ⟨p1, p2, p3, p4, p5, B, p6, p7⟩ := hp
  refine (p6.frame (h' := h' ++ _) fun k hk => List.getElem?_append_left (p6.lt k hk)).app0 (new := [.bool q]) (k := 1) (by_ := 1) (fun k hk => hpm k (by have := p7 k hk; omega)) rfl hb fun v2 h2 B2 a1 a2 a3 a4 a5 => ?_
  simp only [List.length_append, List.length_cons, List.length_nil] at a2 a3 a4
  have hk2 : ∀ k, k < h'.length → k ∉ B → h2[k]? = h'[k]? := fun k hk hn => (a3 k (by omega) hn).trans (List.getElem?_append_left hk)
  refine hQ v2 h2 ⟨by omega, p2, p3.frame (hk2 _ (by omega) fun hb => by have := p7 _ hb; omega), cells_keep (hk2 _ p1 fun hb => by have := p7 _ hb; omega) p4, fun k hk hn => (hk2 k (by omega) fun hb => by have := p7 _ hb; omega).trans (p5 k hk hn), B2, by simpa using a1, fun k hk => ?_⟩
  rcases a4 k hk with h5 | h5
  · exact p7 k h5
  · omega

theorem c_spec_l1Cur_bits (b : Nat) (c : Option (List UInt8)) (K : Nat) (h : H) (most : Nat) (hc : CurI h b c K) (hK : K ≤ 100000000) (h1 : 1 ≤ most) (h2 : most ≤ 150) :
    Call Try.prog 116 [.adr b 0, .int .i64 most] h (fun b' => b' = b) (fun x h' => ∃ (n m bb B : Nat), x = .agg [.int .i64 n, .sl bb 0 1 m m] ∧ n ≤ most ∧ (((n : Int) + 15) / 16) = (m : Int) ∧ h.length ≤ bb ∧ h.length ≤ h'.length ∧ (∀ k, k < h.length → k ≠ b → h'[k]? = h[k]?) ∧ CurI h' b c (K + 1 + most) ∧ h'.cells bb = some ((wordsN B m).map (.int .i64))) := by
  refine enter (by kernel_rfl) e116 (by kernel_rfl) rfl fun hok => ?_
  simp only [r116, initEnv_2]
  have hbl := hc.lt
  (try (simp (disch := first | omega | (simp <;> omega) | fail) only [push_cast, ↓reduceIte, Nat.reduceEqDiff, Nat.reduceAdd, Nat.reduceMul, Nat.reduceSub, Nat.reduceLT, Int.reduceToNat]))
  refine (c_spec_l1Cur_pick b c K _ ((most : Int) + 1) (hc.frame (List.getElem?_append_left hbl)) (by omega) (by omega) (by omega)).mono (fun x h3 hx => ?_) (fun b' _ hb' => Or.inl hb')
  obtain ⟨⟨n0, rfl, m0, m1⟩, hs⟩ := hx
  obtain ⟨n, rfl⟩ : ∃ n : Nat, n0 = (n : Int) := ⟨n0.toNat, by omega⟩
  have hp0 : BdI h h3 b c (K + 1) .nils [] := by
    obtain ⟨s1, s2, s3⟩ := hs
    simp only [List.length_append, List.length_cons, List.length_nil] at s1
    exact ⟨by omega, hbl, s3, cells_keep (s2 _ (by omega)) (by rw [cells_h0]; rfl), fun k hk hn => (s2 k hn).trans (List.getElem?_append_left hk), [], by simpa using S1.nil, by simp⟩
  (try (simp (disch := first | omega | (simp <;> omega) | fail) only [push_cast, ↓reduceIte, Nat.reduceEqDiff, Nat.reduceAdd, Nat.reduceMul, Nat.reduceSub, Nat.reduceLT, Int.reduceToNat]))
  refine T_for n (fun i e h' => ∃ v L, Pins e [(0, .adr b 0), (4, .adr h.length 0), (5, v), (6, .int .i64 ((n : Int) - i))] ∧ BdI h h' b c (K + 1 + i) v L ∧ L.length = i) ?_ ?_
  · refine ⟨.nils, [], ?_, hp0, rfl⟩
    (try (simp (disch := first | omega | (simp <;> omega) | fail) only [push_cast, ↓reduceIte, Nat.reduceEqDiff, Nat.reduceAdd, Nat.reduceMul, Nat.reduceSub, Nat.reduceLT, Int.reduceToNat]))
    all_goals (try simp)
  rintro i e h' hi ⟨v, L, hp, hb, hL⟩
  refine T_pins hp fun e => ?_
  (try (simp (disch := first | omega | (simp <;> omega) | fail) only [push_cast, ↓reduceIte, Nat.reduceEqDiff, Nat.reduceAdd, Nat.reduceMul, Nat.reduceSub, Nat.reduceLT, Int.reduceToNat]))
  first | refine goC_split (fun hd => ?_) (fun hd => ?_) | refine cnd_split (fun hd => ?_) (fun hd => ?_)
  · (try (simp only [decide_eq_true_eq, decide_eq_false_iff_not, Bool.not_eq_true', Bool.not_eq_false', Bool.and_eq_true, Bool.or_eq_true, Int.not_lt, Int.not_le] at hd)); (try (simp (disch := first | omega | (simp <;> omega) | fail) only [push_cast, ↓reduceIte, Nat.reduceEqDiff, Nat.reduceAdd, Nat.reduceMul, Nat.reduceSub, Nat.reduceLT, Int.reduceToNat]))
    have hi2 : i < n := by omega
    refine (c_spec_l1Cur_one b c (K + 1 + i) h' 2 hb.2.2.1 (by omega) (by omega) (by omega)).mono (fun x h4 hx => ?_) (fun b' _ hb' => Or.inl hb')
    obtain ⟨⟨t, rfl⟩, hs4⟩ := hx
    have hb4 := hb.step hs4
    (try (simp (disch := first | omega | (simp <;> omega) | fail) only [push_cast, ↓reduceIte, Nat.reduceEqDiff, Nat.reduceAdd, Nat.reduceMul, Nat.reduceSub, Nat.reduceLT, Int.reduceToNat]))
    refine BdI.app hb4 (fun k hk => Or.inr hk) (by omega) fun v2 h5 hb5 => ?_
    (try (simp (disch := first | omega | (simp <;> omega) | fail) only [push_cast, ↓reduceIte, Nat.reduceEqDiff, Nat.reduceAdd, Nat.reduceMul, Nat.reduceSub, Nat.reduceLT, Int.reduceToNat]))
    have hb6 : BdI h h5 b c (K + 1 + (i + 1)) v2 (L ++ [t]) := hb5
    have hn6 : ((n : Int) - i) - 1 = (n : Int) - ((i : Int) + 1) := by omega
    all_goals (try exact ⟨_, _, rfl, hb6, by simp [hL]⟩)
    all_goals (try exact ⟨_, _, ⟨rfl, by omega⟩, hb6, by simp [hL]⟩)
    all_goals (try exact ⟨_, _, ⟨rfl, by rw [hn6]⟩, hb6, by simp [hL]⟩)
  · (try (simp only [decide_eq_true_eq, decide_eq_false_iff_not, Bool.not_eq_true', Bool.not_eq_false', Bool.and_eq_true, Bool.or_eq_true, Int.not_lt, Int.not_le] at hd)); (try (simp (disch := first | omega | (simp <;> omega) | fail) only [push_cast, ↓reduceIte, Nat.reduceEqDiff, Nat.reduceAdd, Nat.reduceMul, Nat.reduceSub, Nat.reduceLT, Int.reduceToNat]))
    have hie : i = n := by omega
    subst hie
    obtain ⟨p1, p2, p3, p4, p5, B, p6, p7⟩ := hb
    obtain ⟨o, ho1, ho2⟩ := (p6.frame (h' := filt (fun k => decide (h.length + 1 ≤ k)) h') fun k hk => filt_t (by simpa using p7 k hk)).vwB0 (n0 := 0) (fun _ _ => Nat.zero_le _)
    (try (simp (disch := first | omega | (simp <;> omega) | fail) only [push_cast, ↓reduceIte, Nat.reduceEqDiff, Nat.reduceAdd, Nat.reduceMul, Nat.reduceSub, Nat.reduceLT, Int.reduceToNat]))
    refine Call.sink (fun k => decide (h.length + 1 ≤ k)) (ts := [eO o]) rfl (fun k x t hx ht => ?_) (fun b _ hb => Or.inr (by have := of_decide_eq_true hb; omega)) ?_
    · rcases k with _ | k
      · simp at hx ht
        subst hx ht
        exact .inr ho1
      · simp at hx
    have hol : (lO o).length = i := by rw [ho2, hL]
    have g1 : H.cells (filt (fun k => !decide (h.length + 1 ≤ k)) h') h.length = some [.int .i64 0, .nils] := cells_keep (filt_t (by simp)) p4
    have g2 : ∀ k, k < h.length → (filt (fun k => !decide (h.length + 1 ≤ k)) h')[k]? = h'[k]? := fun k hk => filt_t (by simp; omega)
    have g3 : h.length < (filt (fun k => !decide (h.length + 1 ≤ k)) h').length := by rw [filt_len]; exact p1
    have g4 := p3.frame (g2 b p2)
    generalize filt (fun k => !decide (h.length + 1 ≤ k)) h' = g at *
    refine (c_spec_biSome o ((i + 15) / 16) (by rw [hol]; omega) (by omega) g).mono (fun x g5 hx => ?_) (fun _ _ h => h.elim)
    rw [hol] at hx
    obtain ⟨bb, X, rfl, q1, q2, q3, q4⟩ := hx
    have r1 := cells_keep (q3 _ g3) g1
    have hw := cells_wr2 (cells_lt r1) (cs := [AV.int .i64 (i : Int), .sl bb 0 1 ((i + 15) / 16) ((i + 15) / 16)])
    have hpm : (h.length ≤ h.length) = True := by simp
    have hwk : ∀ k, k ≠ h.length → (wr g5 h.length [AV.int .i64 (i : Int), .sl bb 0 1 ((i + 15) / 16) ((i + 15) / 16)])[k]? = g5[k]? := fun k hk => by
      unfold wr
      rw [List.getElem?_set_ne (Ne.symm hk)]
    have f1 : ∀ k, k < h.length → k ≠ b → (wr g5 h.length [AV.int .i64 (i : Int), .sl bb 0 1 ((i + 15) / 16) ((i + 15) / 16)])[k]? = h[k]? := fun k hk hn => (hwk k (by omega)).trans ((q3 k (by omega)).trans ((g2 k hk).trans (p5 k hk hn)))
    have f2 : CurI (wr g5 h.length [AV.int .i64 (i : Int), .sl bb 0 1 ((i + 15) / 16) ((i + 15) / 16)]) b c (K + 1 + most) := ((g4.frame (q3 b (by omega))).frame (hwk b (by omega))).mono (by omega)
    have f3 := cells_keep (hwk bb (by omega)) q4
    have f4 : h.length ≤ (wr g5 h.length [AV.int .i64 (i : Int), .sl bb 0 1 ((i + 15) / 16) ((i + 15) / 16)]).length := by simp [wr]; omega
    (try (simp (disch := first | omega | (simp <;> omega) | fail) only [push_cast, ↓reduceIte, Nat.reduceEqDiff, Nat.reduceAdd, Nat.reduceMul, Nat.reduceSub, Nat.reduceLT, Int.reduceToNat, r1, hpm, hw]))
    all_goals (try exact ⟨i, (i + 15) / 16, bb, X, rfl, by omega, by omega, by omega, f4, f1, f2, f3⟩)
    all_goals (try exact ⟨i, (i + 15) / 16, bb, X, rfl, by omega, by omega, by omega, f1, f2, f3⟩)

theorem c_spec_l1Cur_among (b : Nat) (c : Option (List UInt8)) (K : Nat) (h : H) (b2 : Nat) (L : List Int) (hc : CurI h b c K) (hK : K ≤ 1000000000) (hL : 1 < L.length) (hL2 : L.length ≤ 200) (hb2 : h.cells b2 = some (L.map (.int .i64))) (hne : b2 ≠ b) :
    Call Try.prog 111 [.adr b 0, .sl b2 0 1 L.length L.length] h (fun b' => b' = b) (fun x h' => (∃ m : Int, x = .int .i64 m ∧ m ∈ L) ∧ CurS h h' b c (K + 1)) := by
  refine enter (by kernel_rfl) e111 (by kernel_rfl) rfl fun hok => ?_
  simp only [r111, initEnv_2]
  (try (simp (disch := first | omega | (simp <;> omega) | fail) only [push_cast, ↓reduceIte, Nat.reduceEqDiff, Nat.reduceAdd, Nat.reduceMul, Nat.reduceSub, Nat.reduceLT, Int.reduceToNat]))
  refine (c_spec_l1Cur_pick b c K h L.length hc hK (by omega) (by omega)).mono (fun x h' hx => ?_) (fun b' _ hb' => Or.inl hb')
  obtain ⟨⟨m, rfl, m0, m1⟩, hs⟩ := hx
  have hb3 : h'.cells b2 = some (L.map (.int .i64)) := by
    rw [cells_eq, hs.2.1 b2 hne, ← cells_eq]
    exact hb2
  have hmem : L.getD m.toNat 0 ∈ L := by
    have : m.toNat < L.length := by omega
    simp [this]
  (try (simp (disch := first | omega | (simp <;> omega) | fail) only [push_cast, ↓reduceIte, Nat.reduceEqDiff, Nat.reduceAdd, Nat.reduceMul, Nat.reduceSub, Nat.reduceLT, Int.reduceToNat, hb3]))
  all_goals (try exact ⟨⟨_, rfl, hmem⟩, hs⟩)

/-- A vector of the call's own, in a box. -/
def AbI (h h' : H) (b : Nat) (c : Option (List UInt8)) (K b3 N : Nat) : Prop :=
  b < h.length ∧ h.length + 1 ≤ b3 ∧ CurI h' b c K ∧ h'.cells h.length = some [.int .i64 0, .nils] ∧ (∀ k, k < h.length → k ≠ b → h'[k]? = h[k]?) ∧
  ∃ (n : Int) (v : AV) (l : List Int), h'.cells b3 = some [.int .i64 n, v] ∧ -(N : Int) ≤ n ∧ n ≤ 5000 + (N : Int) ∧ l.length ≤ N ∧ (∃ bb, v = .sl bb 0 1 l.length l.length ∧ h'.cells bb = some (l.map (.int .i64)) ∧ h.length + 1 ≤ bb ∧ bb ≠ b3)
theorem AbI.step {h h' h2 : H} {b K K' b3 N : Nat} {c : Option (List UInt8)} (hp : AbI h h' b c K b3 N) (hs : CurS h' h2 b c K') : AbI h h2 b c K' b3 N := by
  obtain ⟨p1, p2, p3, p4, p5, n, v, l, p6, p7, p8, p9, bb, p10, p11, p12, p13⟩ := hp
  obtain ⟨s1, s2, s3⟩ := hs
  exact ⟨p1, p2, s3, cells_keep (s2 _ (by omega)) p4, fun k hk hn => (s2 k hn).trans (p5 k hk hn), n, v, l, cells_keep (s2 _ (by omega)) p6, p7, p8, p9, bb, p10, cells_keep (s2 _ (by omega)) p11, p12, p13⟩
theorem AbI.more {h h' l : H} {b K b3 N : Nat} {c : Option (List UInt8)} (hp : AbI h h' b c K b3 N) : AbI h (h' ++ l) b c K b3 N := by
  obtain ⟨p1, p2, p3, p4, p5, n, v, l, p6, p7, p8, p9, bb, p10, p11, p12, p13⟩ := hp
  have h0 := cells_lt p4
  exact ⟨p1, p2, p3.frame (List.getElem?_append_left p3.lt), cells_app p4, fun k hk hn => (List.getElem?_append_left (by omega)).trans (p5 k hk hn), n, v, l, cells_app p6, p7, p8, p9, bb, p10, cells_app p11, p12, p13⟩
theorem AbI.monoK {h h' : H} {b K K' b3 N : Nat} {c : Option (List UInt8)} (hp : AbI h h' b c K b3 N) (hk : K ≤ K') : AbI h h' b c K' b3 N := by
  obtain ⟨p1, p2, p3, p4⟩ := hp
  exact ⟨p1, p2, p3.mono hk, p4⟩
theorem AbI.store {h g g2 : H} {b K b3 N N2 bb2 : Nat} {c : Option (List UInt8)} {n2 : Int} {l2 : List Int} (hp : AbI h g b c K b3 N) (hk : ∀ k, k < h.length + 1 ∨ k = b3 → g2[k]? = g[k]?) (hl : g.length ≤ g2.length) (h1 : -(N2 : Int) ≤ n2) (h2 : n2 ≤ 5000 + (N2 : Int)) (h3 : l2.length ≤ N2) (hb : g2.cells bb2 = some (l2.map (.int .i64))) (hb1 : h.length + 1 ≤ bb2) (hb2 : bb2 ≠ b3) :
    AbI h (wr g2 b3 [.int .i64 n2, .sl bb2 0 1 l2.length l2.length]) b c K b3 N2 := by
  obtain ⟨p1, p2, p3, p4, p5, n, v, l, p6, _⟩ := hp
  have hb3 := cells_lt p6
  have hw : ∀ k, k ≠ b3 → (wr g2 b3 [.int .i64 n2, .sl bb2 0 1 l2.length l2.length])[k]? = g2[k]? := fun k hk => by
    unfold wr
    rw [List.getElem?_set_ne (Ne.symm hk)]
  exact ⟨p1, p2, p3.frame ((hw _ (by omega)).trans (hk _ (.inl (by omega)))), cells_keep ((hw _ (by omega)).trans (hk _ (.inl (by omega)))) p4, fun k hk1 hn => (hw _ (by omega)).trans ((hk _ (.inl (by omega))).trans (p5 k hk1 hn)), n2, _, l2, cells_wr2 (by omega), h1, h2, h3, bb2, rfl, cells_keep (hw _ hb2) hb, hb1, hb2⟩
theorem AbI.put {h g : H} {b K b3 N bb : Nat} {c : Option (List UInt8)} {n : Int} {l l2 : List Int} (hp : AbI h g b c K b3 N) (h6 : g.cells b3 = some [.int .i64 n, .sl bb 0 1 l.length l.length]) (hn1 : -(N : Int) ≤ n) (hn2 : n ≤ 5000 + (N : Int)) (hN : l.length ≤ N) (hb1 : h.length + 1 ≤ bb) (hb2 : bb ≠ b3) (hb : bb < g.length) (hl : l2.length = l.length) :
    AbI h (wr g bb (l2.map (.int .i64))) b c K b3 N := by
  obtain ⟨p1, p2, p3, p4, p5, _⟩ := hp
  have hw : ∀ k, k ≠ bb → (wr g bb (l2.map (.int .i64)))[k]? = g[k]? := fun k hk => by
    unfold wr
    rw [List.getElem?_set_ne (Ne.symm hk)]
  exact ⟨p1, p2, p3.frame (hw _ (by omega)), cells_keep (hw _ (by omega)) p4, fun k hk1 hn => (hw _ (by omega)).trans (p5 k hk1 hn), n, _, l2, cells_keep (hw _ (Ne.symm hb2)) h6, hn1, hn2, by omega, bb, by rw [hl], cells_wr2 hb, hb1, hb2⟩
theorem set_over2 {vs : List Int} {i : Nat} {x : Int} (hi : i < vs.length) : over (vs.map (AV.int .i64)) i [.int .i64 x] = (vs.set i x).map (.int .i64) := by
  rw [over_set (by simpa using hi), List.map_set]

set_option maxHeartbeats 4000000 in
theorem c_spec_l1Cur_anyBits (b : Nat) (c : Option (List UInt8)) (K : Nat) (h : H) (hc : CurI h b c K) (hK : K ≤ 10000000) :
    Call Try.prog 92 [.adr b 0] h (fun b' => b' = b) (fun x h' => ∃ (n : Int) (l : List Int) (bb : Nat), x = .agg [.int .i64 n, .sl bb 0 1 l.length l.length] ∧ l.length ≤ 300 ∧ h.length ≤ bb ∧ h.length ≤ h'.length ∧ (∀ k, k < h.length → k ≠ b → h'[k]? = h[k]?) ∧ CurI h' b c (K + 60) ∧ h'.cells bb = some (l.map (.int .i64))) := by
  refine enter (by kernel_rfl) e92 (by kernel_rfl) rfl fun hok => ?_
  simp only [r92, initEnv_1]
  generalize hD : RCode.block 0 _ = D
  have hbl := hc.lt
  (try (simp (disch := first | omega | (simp <;> omega) | fail) only [push_cast, ↓reduceIte, Nat.reduceEqDiff, Nat.reduceAdd, Nat.reduceMul, Nat.reduceSub, Nat.reduceLT, Int.reduceToNat]))
  refine (c_spec_l1Cur_bits b c K _ 40 (hc.frame (List.getElem?_append_left hbl)) (by omega) (by omega) (by omega)).mono (fun x h1 hx => ?_) (fun b' _ hb' => Or.inl hb')
  obtain ⟨n, m, bb, B, rfl, q1, q2, q3, q4, q5, q6, q7⟩ := hx
  simp only [List.length_append, List.length_cons, List.length_nil] at q3 q4
  have hA : AbI h (h1 ++ [some (.cells [.int .i64 n, .sl bb 0 1 m m])]) b c (K + 41) h1.length 10 := by
    have hb1 := cells_lt q7
    refine ⟨hbl, by omega, (q6.frame (List.getElem?_append_left q6.lt)).mono (by omega), cells_app (cells_keep (q5 h.length (by simp) (by omega)) (by rw [cells_h0]; rfl)), fun k hk hn => (List.getElem?_append_left (by omega)).trans ((q5 k (by simp; omega) hn).trans (List.getElem?_append_left hk)), n, _, wordsN B m, by rw [cells_h0]; rfl, by omega, by omega, by rw [wordsN_len]; omega, bb, by rw [wordsN_len], cells_app q7, by omega, by omega⟩
  clear q1 q2 q5 q6 q7
  have hb3 : h1.length = h1.length := rfl
  (try (simp (disch := first | omega | (simp <;> omega) | fail) only [push_cast, ↓reduceIte, Nat.reduceEqDiff, Nat.reduceAdd, Nat.reduceMul, Nat.reduceSub, Nat.reduceLT, Int.reduceToNat]))
  generalize hG : h1 ++ [some (.cells [.int .i64 (n : Int), .sl bb 0 1 m m])] = g at *
  generalize h1.length = b3 at *
  refine (c_spec_l1Cur_pick b c (K + 41) _ 16 hA.2.2.1 (by omega) (by omega) (by omega)).mono (fun x h2 hx => ?_) (fun b' _ hb' => Or.inl hb')
  obtain ⟨⟨k, rfl, k0, k1⟩, hs⟩ := hx
  have hA2 := hA.step hs
  clear hA hG hs
  (try (simp (disch := first | omega | (simp <;> omega) | fail) only [push_cast, ↓reduceIte, Nat.reduceEqDiff, Nat.reduceAdd, Nat.reduceMul, Nat.reduceSub, Nat.reduceLT, Int.reduceToNat]))
  refine T_cut (fun e g => Pins e [(2, .adr h.length 0), (3, .adr b3 0)] ∧ AbI h g b c (K + 60) b3 300) ?_ ?_
  · rw [← hD]
    obtain ⟨p1, p2, p3, p4, p5, n, v, l, p6, p7, p8, p9, bb, hv, p11, p12, p13⟩ := id hA2
    have hv1 : one v = true := by rw [hv]; rfl
    have hv2 : cellsOf v = [v] := by rw [hv]; rfl
    have hb3 := cells_lt p6
    have hbb := cells_lt p11
    have p6' : ∀ l' : H, H.cells (h2 ++ l') b3 = some [.int .i64 n, v] := fun l' => cells_app p6
    by_cases z0 : k = 0
    · (try (simp (disch := first | omega | (simp <;> omega) | fail) only [push_cast, ↓reduceIte, Nat.reduceEqDiff, Nat.reduceAdd, Nat.reduceMul, Nat.reduceSub, Nat.reduceLT, Int.reduceToNat, z0, p6, reads, List.mem_cons, List.mem_append, List.not_mem_nil, nat_ff, or_self, or_false, false_or, not_false_eq_true]))
      repeat' (with_reducible refine And.intro ?_ ?_)
      all_goals
        refine (c_spec_l1Cur_pick b c (K + 42) _ 2 hA2.2.2.1 (by omega) (by omega) (by omega)).mono (fun x h4 hx => ?_) (fun b' _ hb' => Or.inl hb')
        obtain ⟨⟨q, rfl, q0, q1⟩, hs⟩ := hx
        have hA4 := hA2.step hs
        have r6 := cells_keep (hs.2.1 b3 (by omega)) p6
        have r6' : ∀ l' : H, H.cells (h4 ++ l') b3 = some [.int .i64 n, v] := fun l' => cells_app r6
        have r11 := cells_keep (hs.2.1 bb (by omega)) p11
        have hs1 : S1 h4 1 v l.length (l.map (.int .i64)) [bb] := ⟨by simp, .inr ⟨bb, hv, rfl, r11⟩⟩
        have l4 := cells_lt r11
        have l5 := cells_lt r6
        (try (simp (disch := first | omega | (simp <;> omega) | fail) only [push_cast, ↓reduceIte, Nat.reduceEqDiff, Nat.reduceAdd, Nat.reduceMul, Nat.reduceSub, Nat.reduceLT, Int.reduceToNat, r6, r6', reads, List.mem_cons, List.mem_append, List.not_mem_nil, nat_ff, or_self, or_false, false_or, not_false_eq_true]))
        repeat' (with_reducible refine And.intro ?_ ?_)
      all_goals
        refine (hs1.frame (h' := h4 ++ _) fun k hk => List.getElem?_append_left (hs1.lt k hk)).app0 (new := [.int .i64 q]) (k := 1) (by_ := 8) (fun k hk => Or.inr (by simp at hk; omega)) rfl (by omega) fun v2 h5 B2 a1 a2 a3 a4 a5 => ?_
        rcases a1.2 with ⟨_, h0, _⟩ | ⟨b2, rfl, rfl, hc2⟩
        · omega
        simp only [List.length_append, List.length_cons, List.length_nil] at a2 a3 a4
        have l6 := cells_lt p4
        have l7 := hs.1
        have hk5 : ∀ k, k < h.length + 1 ∨ k = b3 → h5[k]? = h4[k]? := fun k hk => (a3 k (by omega) (by simp; omega)).trans (List.getElem?_append_left (by omega))
        have hb2 := a4 b2 (by simp)
        simp only [List.mem_singleton] at hb2
        have hlen : (l ++ [q]).length = l.length + 1 := by simp
        have hfin := hA4.store (n2 := n) (l2 := l ++ [q]) (bb2 := b2) (N2 := 300) hk5 (by omega) (by omega) (by omega) (by rw [hlen]; omega) (by simpa using hc2) (by omega) (by omega)
        have t6 := cells_keep (hk5 b3 (.inr rfl)) r6
        rw [hlen] at hfin
        (try (simp (disch := first | omega | (simp <;> omega) | fail) only [push_cast, ↓reduceIte, Nat.reduceEqDiff, Nat.reduceAdd, Nat.reduceMul, Nat.reduceSub, Nat.reduceLT, Int.reduceToNat, t6, reads, List.mem_cons, List.mem_append, List.not_mem_nil, nat_ff, or_self, or_false, false_or, not_false_eq_true]))
        all_goals (try exact hfin.monoK (by omega))
    by_cases z1 : k = 1
    · (try (simp (disch := first | omega | (simp <;> omega) | fail) only [push_cast, ↓reduceIte, Nat.reduceEqDiff, Nat.reduceAdd, Nat.reduceMul, Nat.reduceSub, Nat.reduceLT, Int.reduceToNat, z1, p6, reads, List.mem_cons, List.mem_append, List.not_mem_nil, nat_ff, or_self, or_false, false_or, not_false_eq_true]))
      repeat' (with_reducible refine And.intro ?_ ?_)
      all_goals
        refine (c_spec_l1Cur_pick b c (K + 42) _ 3 hA2.2.2.1 (by omega) (by omega) (by omega)).mono (fun x h4 hx => ?_) (fun b' _ hb' => Or.inl hb')
        obtain ⟨⟨q, rfl, q0, q1⟩, hs⟩ := hx
        have hA4 := hA2.step hs
        have r6 := cells_keep (hs.2.1 b3 (by omega)) p6
        have r11 := cells_keep (hs.2.1 bb (by omega)) p11
        have hfin := hA4.store (n2 := n + (q - 1)) (l2 := l) (bb2 := bb) (N2 := 300) (fun _ _ => rfl) (Nat.le_refl _) (by omega) (by omega) (by omega) r11 (by omega) (by omega)
        rw [← hv] at hfin
        (try (simp (disch := first | omega | (simp <;> omega) | fail) only [push_cast, ↓reduceIte, Nat.reduceEqDiff, Nat.reduceAdd, Nat.reduceMul, Nat.reduceSub, Nat.reduceLT, Int.reduceToNat, r6, reads, List.mem_cons, List.mem_append, List.not_mem_nil, nat_ff, or_self, or_false, false_or, not_false_eq_true]))
      all_goals (try exact hfin.monoK (by omega))
    by_cases z2 : k = 2
    · have hlv : lenA v = some (.int .i64 l.length) := by rw [hv]; rfl
      have hrep : List.replicate 4 (AV.int .i64 0) = [.int .i64 0, .int .i64 0, .int .i64 0, .int .i64 0] := rfl
      have ov0 := fun x0 x1 x2 x3 y => (over4 x0 x1 x2 x3 y).1
      have ov1 := fun x0 x1 x2 x3 y => (over4 x0 x1 x2 x3 y).2.1
      have ov2 := fun x0 x1 x2 x3 y => (over4 x0 x1 x2 x3 y).2.2.1
      have ov3 := fun x0 x1 x2 x3 y => (over4 x0 x1 x2 x3 y).2.2.2
      have hfin0 : AbI h h2 b c (K + 60) b3 300 := by
        obtain ⟨o1, o2, o3, o4, o5, n', v', l', o6, o7, o8, o9, o10⟩ := hA2.monoK (show K + 41 + 1 ≤ K + 60 by omega)
        exact ⟨o1, o2, o3, o4, o5, n', v', l', o6, by omega, by omega, by omega, o10⟩
      have fin : ∀ (g h7 : H) (q m : Int) (K' : Nat), AbI h g b c K' b3 10 → CurS g h7 b c (K + 50) → g.cells b3 = some [.int .i64 n, v] → g.cells bb = some (l.map (.int .i64)) → h7.cells bb = some (l.map (.int .i64)) ∧ AbI h (wr h7 bb ((l.set q.toNat m).map (.int .i64))) b c (K + 60) b3 300 := fun g h7 q m K' hg hs g6 g11 => by
        have hA7 := (hg.step hs).monoK (show K + 50 ≤ K + 60 by omega)
        have t6 := cells_keep (hs.2.1 b3 (by omega)) g6
        have t11 := cells_keep (hs.2.1 bb (by omega)) g11
        rw [hv] at t6
        have := hA7.put (l2 := l.set q.toNat m) t6 p7 p8 p9 p12 p13 (cells_lt t11) (by simp)
        obtain ⟨o1, o2, o3, o4, o5, n', v', l', o6, o7, o8, o9, o10⟩ := this
        exact ⟨t11, o1, o2, o3, o4, o5, n', v', l', o6, by omega, by omega, by omega, o10⟩
      (try (simp (disch := first | omega | (simp <;> omega) | fail) only [push_cast, ↓reduceIte, Nat.reduceEqDiff, Nat.reduceAdd, Nat.reduceMul, Nat.reduceSub, Nat.reduceLT, Int.reduceToNat, z2, p6, hlv, reads, List.mem_cons, List.mem_append, List.not_mem_nil, nat_ff, or_self, or_false, false_or, not_false_eq_true]))
      first | refine goC_split (fun hd => ?_) (fun hd => ?_) | refine cnd_split (fun hd => ?_) (fun hd => ?_)
      · (try (simp only [decide_eq_true_eq, decide_eq_false_iff_not, Bool.not_eq_true', Bool.not_eq_false', Bool.and_eq_true, Bool.or_eq_true, Int.not_lt, Int.not_le] at hd)); (try (simp (disch := first | omega | (simp <;> omega) | fail) only [push_cast, ↓reduceIte, Nat.reduceEqDiff, Nat.reduceAdd, Nat.reduceMul, Nat.reduceSub, Nat.reduceLT, Int.reduceToNat]))
        subst hv
        have hpm2 : (bb = b ∨ h.length ≤ bb) = True := by rw [eq_iff_iff]; exact ⟨fun _ => trivial, fun _ => Or.inr (by omega)⟩
        (try (simp (disch := first | omega | (simp <;> omega) | fail) only [push_cast, ↓reduceIte, Nat.reduceEqDiff, Nat.reduceAdd, Nat.reduceMul, Nat.reduceSub, Nat.reduceLT, Int.reduceToNat, p6, p6', hrep, ov0, ov1, ov2, ov3, reads, List.mem_cons, List.mem_append, List.not_mem_nil, nat_ff, or_self, or_false, false_or, not_false_eq_true]))
        repeat' (with_reducible refine And.intro ?_ ?_)
        all_goals
          first
          | (refine (c_spec_l1Cur_pickAny b c (K + 42) h2 (l.length : Int) hA2.2.2.1 (by omega) (by omega)).mono (fun x h4 hx => ?_) (fun b' _ hb' => Or.inl hb')
             obtain ⟨⟨q, rfl, q0, q1⟩, hs⟩ := hx
             have hA4 := hA2.step hs
             have r6 := cells_keep (hs.2.1 b3 (by omega)) p6
             have r6' := fun l' : H => cells_app (l := l') r6
             have r11 := cells_keep (hs.2.1 bb (by omega)) p11
             have l4 := cells_lt r11
             have l5 := cells_lt r6
             (try (simp (disch := first | omega | (simp <;> omega) | fail) only [push_cast, ↓reduceIte, Nat.reduceEqDiff, Nat.reduceAdd, Nat.reduceMul, Nat.reduceSub, Nat.reduceLT, Int.reduceToNat, r6, r6', hrep, ov0, ov1, ov2, ov3, reads, List.mem_cons, List.mem_append, List.not_mem_nil, nat_ff, or_self, or_false, false_or, not_false_eq_true]))
             repeat' (with_reducible refine And.intro ?_ ?_)
             all_goals
               refine (c_spec_l1Cur_among b c (K + 43) (h4 ++ [some (AObj.cells (([-1, 65535, 65536, 40000] : List Int).map (.int .i64)))]) h4.length [-1, 65535, 65536, 40000] hA4.more.2.2.1 (by omega) (by decide) (by decide) (by rw [cells_h0]; rfl) (by omega)).mono (fun x h7 hx => ?_) (fun b' _ hb' => Or.inl hb')
               obtain ⟨⟨mm, rfl, _⟩, hs7⟩ := hx
               obtain ⟨t11, hfin⟩ := fin _ h7 q mm _ hA4.more ⟨hs7.1, hs7.2.1, hs7.2.2.mono (by omega)⟩ (cells_app r6) (cells_app r11)
               have t6 := cells_keep (hs7.2.1 b3 (by omega)) (cells_app r6)
               have hov := set_over2 (vs := l) (i := q.toNat) (x := mm) (by omega)
               have hll : (l.map (AV.int .i64)).length = l.length := by simp
               (try (simp (disch := first | omega | (simp <;> omega) | fail) only [push_cast, ↓reduceIte, Nat.reduceEqDiff, Nat.reduceAdd, Nat.reduceMul, Nat.reduceSub, Nat.reduceLT, Int.reduceToNat, t6, t11, hll, hov, hpm2, reads, List.mem_cons, List.mem_append, List.not_mem_nil, nat_ff, or_self, or_false, false_or, not_false_eq_true]))
               all_goals (try exact hfin))
          | (refine (c_spec_l1Cur_pickAny b c (K + 42) (h2 ++ [some (AObj.cells (([-1, 65535, 65536, 40000] : List Int).map (.int .i64)))]) (l.length : Int) hA2.more.2.2.1 (by omega) (by omega)).mono (fun x h4 hx => ?_) (fun b' _ hb' => Or.inl hb')
             obtain ⟨⟨q, rfl, q0, q1⟩, hs⟩ := hx
             have hA4 := hA2.more.step hs
             have r6 := cells_keep (hs.2.1 b3 (by omega)) (cells_app p6)
             have r6' := fun l' : H => cells_app (l := l') r6
             have r11 := cells_keep (hs.2.1 bb (by omega)) (cells_app p11)
             have rl : h4.cells h2.length = some (([-1, 65535, 65536, 40000] : List Int).map (.int .i64)) := cells_keep (hs.2.1 h2.length (by omega)) (by rw [cells_h0]; rfl)
             have l4 := cells_lt r11
             have l5 := cells_lt r6
             (try (simp (disch := first | omega | (simp <;> omega) | fail) only [push_cast, ↓reduceIte, Nat.reduceEqDiff, Nat.reduceAdd, Nat.reduceMul, Nat.reduceSub, Nat.reduceLT, Int.reduceToNat, r6, r6', reads, List.mem_cons, List.mem_append, List.not_mem_nil, nat_ff, or_self, or_false, false_or, not_false_eq_true]))
             repeat' (with_reducible refine And.intro ?_ ?_)
             all_goals
               refine (c_spec_l1Cur_among b c (K + 43) h4 h2.length [-1, 65535, 65536, 40000] hA4.2.2.1 (by omega) (by decide) (by decide) rl (by omega)).mono (fun x h7 hx => ?_) (fun b' _ hb' => Or.inl hb')
               obtain ⟨⟨mm, rfl, _⟩, hs7⟩ := hx
               obtain ⟨t11, hfin⟩ := fin _ h7 q mm _ hA4 ⟨hs7.1, hs7.2.1, hs7.2.2.mono (by omega)⟩ r6 r11
               have t6 := cells_keep (hs7.2.1 b3 (by omega)) r6
               have hov := set_over2 (vs := l) (i := q.toNat) (x := mm) (by omega)
               have hll : (l.map (AV.int .i64)).length = l.length := by simp
               (try (simp (disch := first | omega | (simp <;> omega) | fail) only [push_cast, ↓reduceIte, Nat.reduceEqDiff, Nat.reduceAdd, Nat.reduceMul, Nat.reduceSub, Nat.reduceLT, Int.reduceToNat, t6, t11, hll, hov, hpm2, reads, List.mem_cons, List.mem_append, List.not_mem_nil, nat_ff, or_self, or_false, false_or, not_false_eq_true]))
               all_goals (try exact hfin))
      · (try (simp only [decide_eq_true_eq, decide_eq_false_iff_not, Bool.not_eq_true', Bool.not_eq_false', Bool.and_eq_true, Bool.or_eq_true, Int.not_lt, Int.not_le] at hd)); (try (simp (disch := first | omega | (simp <;> omega) | fail) only [push_cast, ↓reduceIte, Nat.reduceEqDiff, Nat.reduceAdd, Nat.reduceMul, Nat.reduceSub, Nat.reduceLT, Int.reduceToNat]))
        (try (simp (disch := first | omega | (simp <;> omega) | fail) only [push_cast, ↓reduceIte, Nat.reduceEqDiff, Nat.reduceAdd, Nat.reduceMul, Nat.reduceSub, Nat.reduceLT, Int.reduceToNat, reads, List.mem_cons, List.mem_append, List.not_mem_nil, nat_ff, or_self, or_false, false_or, not_false_eq_true]))
        all_goals (try exact hfin0)
    by_cases z3 : k = 3
    · (try (simp (disch := first | omega | (simp <;> omega) | fail) only [push_cast, ↓reduceIte, Nat.reduceEqDiff, Nat.reduceAdd, Nat.reduceMul, Nat.reduceSub, Nat.reduceLT, Int.reduceToNat, z3, reads, List.mem_cons, List.mem_append, List.not_mem_nil, nat_ff, or_self, or_false, false_or, not_false_eq_true]))
      refine (c_spec_l1Cur_pick b c (K + 42) _ 2 hA2.2.2.1 (by omega) (by omega) (by omega)).mono (fun x h4 hx => ?_) (fun b' _ hb' => Or.inl hb')
      obtain ⟨⟨q, rfl, q0, q1⟩, hs⟩ := hx
      have hA4 := hA2.step hs
      have r6 := cells_keep (hs.2.1 b3 (by omega)) p6
      obtain ⟨nn, hnn⟩ : ∃ nn : Nat, (4096 : Int) - q = (nn : Int) := ⟨((4096 : Int) - q).toNat, by omega⟩
      (try (simp (disch := first | omega | (simp <;> omega) | fail) only [push_cast, ↓reduceIte, Nat.reduceEqDiff, Nat.reduceAdd, Nat.reduceMul, Nat.reduceSub, Nat.reduceLT, Int.reduceToNat, hnn]))
      refine (c_spec_biNew_own nn ((nn + 15) / 16) (by omega) (by omega) _).mono (fun x h5 hx => ?_) (fun _ _ h => h.elim)
      obtain ⟨b5, rfl, t1, ⟨p, rfl⟩, t3⟩ := hx
      have l6 := cells_lt p4
      have l7 := hs.1
      have l8 := cells_lt r6
      have hlen : (wordsN 0 ((nn + 15) / 16)).length = (nn + 15) / 16 := wordsN_len
      have hfin := hA4.store (g2 := h4 ++ p) (n2 := nn) (l2 := wordsN 0 ((nn + 15) / 16)) (bb2 := b5) (N2 := 300) (fun k hk => List.getElem?_append_left (by omega)) (by simp) (by omega) (by omega) (by omega) t3 (by omega) (by omega)
      rw [hlen] at hfin
      have t6 := cells_app (l := p) r6
      (try (simp (disch := first | omega | (simp <;> omega) | fail) only [push_cast, ↓reduceIte, Nat.reduceEqDiff, Nat.reduceAdd, Nat.reduceMul, Nat.reduceSub, Nat.reduceLT, Int.reduceToNat, r6, t6, reads, List.mem_cons, List.mem_append, List.not_mem_nil, nat_ff, or_self, or_false, false_or, not_false_eq_true]))
      all_goals (try exact hfin.monoK (by omega))
    by_cases z4 : k = 4
    · (try (simp (disch := first | omega | (simp <;> omega) | fail) only [push_cast, ↓reduceIte, Nat.reduceEqDiff, Nat.reduceAdd, Nat.reduceMul, Nat.reduceSub, Nat.reduceLT, Int.reduceToNat, z4, reads, List.mem_cons, List.mem_append, List.not_mem_nil, nat_ff, or_self, or_false, false_or, not_false_eq_true]))
      refine (c_spec_l1Cur_pick b c (K + 42) _ 5 hA2.2.2.1 (by omega) (by omega) (by omega)).mono (fun x h4 hx => ?_) (fun b' _ hb' => Or.inl hb')
      obtain ⟨⟨q, rfl, q0, q1⟩, hs⟩ := hx
      have hA4 := hA2.step hs
      have r6 := cells_keep (hs.2.1 b3 (by omega)) p6
      obtain ⟨nn, hnn⟩ : ∃ nn : Nat, (16 : Int) * q = (nn : Int) := ⟨((16 : Int) * q).toNat, by omega⟩
      (try (simp (disch := first | omega | (simp <;> omega) | fail) only [push_cast, ↓reduceIte, Nat.reduceEqDiff, Nat.reduceAdd, Nat.reduceMul, Nat.reduceSub, Nat.reduceLT, Int.reduceToNat, hnn]))
      refine (c_spec_biNew_own nn ((nn + 15) / 16) (by omega) (by omega) _).mono (fun x h5 hx => ?_) (fun _ _ h => h.elim)
      obtain ⟨b5, rfl, t1, ⟨p, rfl⟩, t3⟩ := hx
      have l6 := cells_lt p4
      have l7 := hs.1
      have l8 := cells_lt r6
      have hlen : (wordsN 0 ((nn + 15) / 16)).length = (nn + 15) / 16 := wordsN_len
      have hfin := hA4.store (g2 := h4 ++ p) (n2 := nn) (l2 := wordsN 0 ((nn + 15) / 16)) (bb2 := b5) (N2 := 300) (fun k hk => List.getElem?_append_left (by omega)) (by simp) (by omega) (by omega) (by omega) t3 (by omega) (by omega)
      rw [hlen] at hfin
      have t6 := cells_app (l := p) r6
      (try (simp (disch := first | omega | (simp <;> omega) | fail) only [push_cast, ↓reduceIte, Nat.reduceEqDiff, Nat.reduceAdd, Nat.reduceMul, Nat.reduceSub, Nat.reduceLT, Int.reduceToNat, r6, t6, reads, List.mem_cons, List.mem_append, List.not_mem_nil, nat_ff, or_self, or_false, false_or, not_false_eq_true]))
      all_goals (try exact hfin.monoK (by omega))
    have hfin : AbI h h2 b c (K + 60) b3 300 := by
      obtain ⟨o1, o2, o3, o4, o5, n', v', l', o6, o7, o8, o9, o10⟩ := hA2.monoK (show K + 41 + 1 ≤ K + 60 by omega)
      exact ⟨o1, o2, o3, o4, o5, n', v', l', o6, by omega, by omega, by omega, o10⟩
    (try (simp (disch := first | omega | (simp <;> omega) | fail) only [push_cast, ↓reduceIte, Nat.reduceEqDiff, Nat.reduceAdd, Nat.reduceMul, Nat.reduceSub, Nat.reduceLT, Int.reduceToNat, z0, z1, z2, z3, z4, reads, List.mem_cons, List.mem_append, List.not_mem_nil, nat_ff, or_self, or_false, false_or, not_false_eq_true]))
    all_goals (try exact hfin)
  rintro e g ⟨hp, hA3⟩
  refine K_pins hp fun e => ?_
  obtain ⟨p1, p2, p3, p4, p5, n, v, l, p6, p7, p8, p9, bb, rfl, p11, p12, p13⟩ := hA3
  have h0 := cells_lt p4
  have hw := cells_wr2 h0 (cs := [AV.int .i64 n, .sl bb 0 1 l.length l.length])
  have hpm : (h.length ≤ h.length) = True := by simp
  have hwk : ∀ k, k ≠ h.length → (wr g h.length [AV.int .i64 n, .sl bb 0 1 l.length l.length])[k]? = g[k]? := fun k hk => by
    unfold wr
    rw [List.getElem?_set_ne (Ne.symm hk)]
  have f1 : ∀ k, k < h.length → k ≠ b → (wr g h.length [AV.int .i64 n, .sl bb 0 1 l.length l.length])[k]? = h[k]? := fun k hk hn => (hwk k (by omega)).trans (p5 k hk hn)
  have f2 := p3.frame (hwk b (by omega))
  have f3 := cells_keep (hwk bb (by omega)) p11
  have f4 : h.length ≤ (wr g h.length [AV.int .i64 n, .sl bb 0 1 l.length l.length]).length := by simp [wr]; omega
  (try (simp (disch := first | omega | (simp <;> omega) | fail) only [push_cast, ↓reduceIte, Nat.reduceEqDiff, Nat.reduceAdd, Nat.reduceMul, Nat.reduceSub, Nat.reduceLT, Int.reduceToNat, p4, p6, hpm, hw]))
  all_goals (try exact ⟨n, l, bb, rfl, p9, by omega, f4, f1, f2, f3⟩)
  all_goals (try exact ⟨n, l, bb, rfl, p9, by omega, f1, f2, f3⟩)

end Go.Proofs.Ytgkdnpigbpkehaa.M
