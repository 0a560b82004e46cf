/-
  What the functions return.
-/
import Derived.Test.YtjfgmimgmapeeaaGreatFyq
import Derived.Test.YtjfgmimgmapeeaaGreatCyp
namespace Go.Proofs.YtjfgmimgmapeeaaGreat.M
open Go Go.RowKit
set_option linter.unusedVariables false
set_option linter.unusedSimpArgs false
set_option maxRecDepth 4000

theorem c_spec_l1Most (a b : Int) : Fn Tryz.prog 136 [.int .i64 a, .int .i64 b] (· = .int .i64 (if b < a then a else b)) := by
  refine Fn.of free_int fun h => ?_
  refine enter (by kernel_rfl) e136 (by kernel_rfl) rfl fun hok => ?_
  simp only [r136, initEnv_2]
  (try (simp (disch := first | omega | (simp <;> omega) | fail) only [push_cast, ↓reduceIte, Nat.reduceEqDiff, Nat.reduceAdd, Nat.reduceMul, Nat.reduceSub, Nat.reduceLT, Int.reduceToNat]))
  first | refine goC_split (fun hc => ?_) (fun hc => ?_) | refine cnd_split (fun hc => ?_) (fun hc => ?_)
  · (try (simp only [decide_eq_true_eq, decide_eq_false_iff_not, Bool.not_eq_true', Bool.not_eq_false', Bool.and_eq_true, Bool.or_eq_true, Int.not_lt, Int.not_le] at hc)); (try (simp (disch := first | omega | (simp <;> omega) | fail) only [push_cast, ↓reduceIte, Nat.reduceEqDiff, Nat.reduceAdd, Nat.reduceMul, Nat.reduceSub, Nat.reduceLT, Int.reduceToNat]))
    all_goals (try rw [if_pos hc])
  · (try (simp only [decide_eq_true_eq, decide_eq_false_iff_not, Bool.not_eq_true', Bool.not_eq_false', Bool.and_eq_true, Bool.or_eq_true, Int.not_lt, Int.not_le] at hc)); (try (simp (disch := first | omega | (simp <;> omega) | fail) only [push_cast, ↓reduceIte, Nat.reduceEqDiff, Nat.reduceAdd, Nat.reduceMul, Nat.reduceSub, Nat.reduceLT, Int.reduceToNat]))
    all_goals (try rw [if_neg (by omega)])

def okCh (c : UInt8) : Bool := decide (32 ≤ (c.toNat : Int)) && decide ((c.toNat : Int) ≤ 125)
def plain (s : Str) : Bool := s.all okCh
theorem flatMap_eq {α β : Type} {f g : α → List β} : ∀ {l : List α}, (∀ a ∈ l, f a = g a) → l.flatMap f = l.flatMap g
  | [], _ => rfl
  | a :: l, h => by
    rw [List.flatMap_cons, List.flatMap_cons, h a (by simp), flatMap_eq fun b hb => h b (by simp [hb])]
theorem argsFit_cons {s : Sh} {ss : List Sh} {zs : List AV} (h : ArgsFit (s :: ss) zs) : ∃ xs ys, zs = argOf s xs :: ys ∧ Fit s xs ∧ ArgsFit ss ys := by
  cases h with
  | cons h hr => exact ⟨_, _, rfl, h, hr⟩
theorem argsFit_nil {zs : List AV} (h : ArgsFit [] zs) : zs = [] := by cases h; rfl

theorem fit_rows {α : Type} [Inhabited α] {s : Sh} {w : Nat} {f : α → List AV} (hf : ∀ xs, Fit s xs → ∃ a, xs = f a) {zs : List AV} (h : Fit (.sl s w) zs) : zs = [.nils] ∨ ∃ l : List α, zs = [.ro w (l.flatMap f) l.length] := by
  cases h with
  | nil => exact .inl rfl
  | @sl _ _ n g hm hl h =>
    have hg : ∀ i, ∃ a : α, i < n → g i = f a := fun i => by
      by_cases hi : i < n
      · obtain ⟨a, ha⟩ := hf _ (h i hi)
        exact ⟨a, fun _ => ha⟩
      · exact ⟨default, fun h => absurd h hi⟩
    refine .inr ⟨(List.range n).map fun i => Classical.choose (hg i), ?_⟩
    rw [List.length_map, List.length_range, List.flatMap_map]
    congr 2
    exact flatMap_eq fun i hi => Classical.choose_spec (hg i) (List.mem_range.1 hi)
theorem flatMap_one {α : Type} {f : α → AV} : ∀ {l : List α}, l.flatMap (fun a => [f a]) = l.map f
  | [] => rfl
  | a :: l => by rw [List.flatMap_cons, flatMap_one]; rfl
def u8s (s : Str) : List AV := s.map fun c => .int .u8 (c.toNat : Int)
theorem asInts_u8s : ∀ s : Str, asInts (u8s s) = some s
  | [] => rfl
  | c :: s => by
    have ih := asInts_u8s s
    unfold u8s at ih ⊢
    rw [List.map_cons, asInts, ih]
    simp
theorem cbs_S1 {h : H} {v : AV} {s : Str} {n : Nat} {B : List Nat} (hs : S1 h 1 v n (u8s s) B) : cbsA h v = some (.str s) := by
  obtain ⟨hl, hs⟩ := hs
  have hn : s.length = n := by
    unfold u8s at hl
    simpa using hl
  rcases hs with ⟨rfl, h0, _⟩ | ⟨b, rfl, _, hc⟩
  · subst h0
    rw [List.eq_nil_of_length_eq_zero hn]
    rfl
  · have hul : (u8s s).length = n := by simpa using hl
    simp only [cbsA, hc, Option.bind_some, if_true]
    rw [if_pos (by omega), List.drop_zero, List.take_of_length_le (by omega), asInts_u8s]
    rfl
def bitC (b : Bool) : UInt8 := if b then 49 else 48
def textB (B n : Nat) : Str := (List.range n).map fun i => bitC (B.testBit i)
theorem textB_succ {B n : Nat} : u8s (textB B (n + 1)) = u8s (textB B n) ++ [.int .u8 ((bitC (B.testBit n)).toNat : Int)] := by
  simp [u8s, textB, List.range_succ]
/-- The loop: what is written so far, behind the box. -/
def TxI (h h' : H) (b : Bt) (v : AV) (i : Nat) : Prop := h.length < h'.length ∧ H.cells h' h.length = some (cB b) ∧ ∃ Bk, S1 h' 1 v i (u8s (textB (numW (lI b.words)) i)) Bk ∧ ∀ c ∈ Bk, h.length < c
theorem TxI.app {h h' : H} {b : Bt} {v : AV} {i : Nat} {x : Int} {by_ : Nat} {pm : Nat → Prop} {Q : AV → H → Prop} (ht : TxI h h' b v i) (hpm : ∀ c, h.length < c → pm c) (hx : x = ((bitC ((numW (lI b.words)).testBit i)).toNat : Int)) (hb : (i + 1) * by_ ≤ 140737488355328)
    (hQ : ∀ v' h'', TxI h h'' b v' (i + 1) → Q v' h'') : apA pm (h' ++ [some (.cells [.int .u8 x])]) Q 1 by_ (some ([.int .u8 x], 1)) v := by
  obtain ⟨t1, t2, Bk, t3, t4⟩ := ht
  have t5 := t3.frame (h' := h' ++ [some (.cells [.int .u8 x])]) fun c hc => List.getElem?_append_left (t3.lt c hc)
  refine t5.app (fun c hc => hpm c (t4 c hc)) rfl (by decide) hb (fun v' h'' B' q1 q2 q3 q4 => hQ v' h'' ⟨?_, ?_, B', ?_, fun c hc => ?_⟩)
  · simp at q2
    omega
  · rw [cells_eq, q3 h.length (by simp; omega) (fun hc => absurd (t4 _ hc) (Nat.lt_irrefl _)), List.getElem?_append_left t1, ← cells_eq]
    exact t2
  · rw [textB_succ, ← hx]
    exact q1
  · rcases q4 c hc with h5 | h5
    · exact t4 c h5
    · simp at h5
      omega

def eU : Option (List UInt8) → AV
  | none => .nils
  | some l => .ro 1 (u8s l) l.length
def lU : Option (List UInt8) → List UInt8
  | none => []
  | some l => l
theorem lenA_eU {l : Option (List UInt8)} : lenA (eU l) = some (.int .i64 (lU l).length) := by cases l <;> rfl
theorem iaddr_eU {l : Option (List UInt8)} {k : IntKind} {n : Int} (h1 : 0 ≤ n) (h2 : n < (lU l).length) : iaddrA 1 (eU l) (.int k n) = some (.rad (u8s (lU l)) n.toNat) := by
  cases l with
  | none => simp [lU] at h2; omega
  | some l => exact (iaddrA_ro h1 h2).trans (by simp [lU])
theorem get_U {l : List UInt8} {i : Nat} (hi : i < l.length) : (u8s l)[i]? = some (.int .u8 ((l.getD i 0).toNat : Int)) := by simp [u8s, hi]
theorem one_eU {l : Option (List UInt8)} : one (eU l) = true := by cases l <;> rfl
theorem cellsOf_eU {l : Option (List UInt8)} : cellsOf (eU l) = [eU l] := by cases l <;> rfl
theorem ok_eU {l : Option (List UInt8)} (h : OkV (eU l)) : (lU l).length ≤ 9223372036854775807 := by
  cases l with
  | none => simp [lU]
  | some l => exact h.ro.1
attribute [push_cast] lenA_eU iaddr_eU get_U one_eU cellsOf_eU
/-- The cursor in block b: what it reads, and how far it may be. -/
def CurI (h : H) (b : Nat) (c : Option (List UInt8)) (K : Nat) : Prop := ∃ (at_ : Nat) (sd : Int), h.cells b = some [eU c, .int .i64 at_, .int .u64 sd] ∧ at_ ≤ K
/-- Nothing else is touched. -/
def CurS (h h' : H) (b : Nat) (c : Option (List UInt8)) (K : Nat) : Prop := h'.length = h.length ∧ (∀ b', b' ≠ b → h'[b']? = h[b']?) ∧ CurI h' b c K
theorem CurI.lt {h : H} {b K : Nat} {c : Option (List UInt8)} (hc : CurI h b c K) : b < h.length := by
  obtain ⟨a, s, h1, _⟩ := hc
  exact cells_lt h1
theorem CurI.frame {h h' : H} {b K : Nat} {c : Option (List UInt8)} (hc : CurI h b c K) (hk : h'[b]? = h[b]?) : CurI h' b c K := by
  obtain ⟨a, s, h1, h2⟩ := hc
  exact ⟨a, s, by rw [cells_eq, hk, ← cells_eq]; exact h1, h2⟩
theorem CurI.mono {h : H} {b K K' : Nat} {c : Option (List UInt8)} (hc : CurI h b c K) (hk : K ≤ K') : CurI h b c K' := by
  obtain ⟨a, s, h1, h2⟩ := hc
  exact ⟨a, s, h1, by omega⟩
theorem and255 (x : Int) : 0 ≤ bitsI .and .u64 x 255 ∧ bitsI .and .u64 x 255 ≤ 255 := by
  have h1 : (BitVec.ofInt 64 x &&& BitVec.ofInt 64 255).toNat ≤ 255 := by
    rw [BitVec.toNat_and]
    exact Nat.le_trans Nat.and_le_right (by decide)
  have h2 : bitsI .and .u64 x 255 = ((BitVec.ofInt 64 x &&& BitVec.ofInt 64 255).toNat : Int) := by
    show IntKind.u64.wrap ((BitVec.ofInt 64 x &&& BitVec.ofInt 64 255).toNat : Int) = _
    rw [IntKind.wrap_u64]
    omega
  rw [h2]
  omega
theorem wrap_and255 (x : Int) : IntKind.i64.wrap (bitsI .and .u64 x 255) = bitsI .and .u64 x 255 := wrap_ok (by have := and255 x; omega) (by have := and255 x; omega)
theorem cells_wr {h : H} {b : Nat} (hb : b < h.length) (cs : List AV) : H.cells (wr h b cs) b = some cs := by
  rw [cells_eq]
  unfold wr
  rw [List.getElem?_set_self hb]
  rfl
theorem wr_wr {h : H} {b : Nat} (cs cs' : List AV) : wr (wr h b cs) b cs' = wr h b cs' := by
  unfold wr
  rw [List.set_set]
/-- The text that is drawn, so far: behind the cursor. -/
def PlI (h0 h' : H) (b : Nat) (c : Option (List UInt8)) (K : Nat) (v : AV) (s : Str) : Prop :=
  h0.length ≤ h'.length ∧ b < h0.length ∧ CurI h' b c K ∧ ∃ B, S1 h' 1 v s.length (u8s s) B ∧ ∀ x ∈ B, h0.length ≤ x
theorem PlI.step {h0 h' h2 : H} {b K K' : Nat} {c : Option (List UInt8)} {v : AV} {s : Str} (hp : PlI h0 h' b c K v s) (hs : CurS h' h2 b c K') : PlI h0 h2 b c K' v s := by
  obtain ⟨p1, p2, _, B, p3, p4⟩ := hp
  obtain ⟨s1, s2, s3⟩ := hs
  exact ⟨by omega, p2, s3, B, p3.frame fun x hx => s2 x (fun he => by have := p4 x hx; omega), p4⟩
theorem PlI.app {h0 h' : H} {b K by_ : Nat} {c : Option (List UInt8)} {v : AV} {s : Str} {x : Int} {ch : UInt8} {pm : Nat → Prop} {Q : AV → H → Prop} (hp : PlI h0 h' b c K v s) (hpm : ∀ x, h0.length ≤ x → pm x) (hx : x = (ch.toNat : Int)) (hb : (s.length + 1) * by_ ≤ 140737488355328)
    (hQ : ∀ v' h'', PlI h0 h'' b c K v' (s ++ [ch]) → Q v' h'') : apA pm (h' ++ [some (.cells [.int .u8 x])]) Q 1 by_ (some ([.int .u8 x], 1)) v := by
  obtain ⟨p1, p2, p3, B, p4, p5⟩ := hp
  have p6 := p4.frame (h' := h' ++ [some (.cells [.int .u8 x])]) fun y hy => List.getElem?_append_left (p4.lt y hy)
  refine p6.app (fun y hy => hpm y (p5 y hy)) rfl (by decide) hb (fun v' h'' B' q1 q2 q3 q4 => hQ v' h'' ⟨?_, p2, p3.frame ?_, B', ?_, fun y hy => ?_⟩)
  · simp at q2
    omega
  · rw [q3 b (by simp; omega) (fun hy => by have := p5 b hy; omega), List.getElem?_append_left p3.lt]
  · have e1 : u8s (s ++ [ch]) = u8s s ++ [.int .u8 x] := by simp [u8s, hx]
    rw [e1]
    simpa using q1
  · rcases q4 y hy with h5 | h5
    · exact p5 y h5
    · simp at h5
      omega
theorem PlI.more {h0 h' l : H} {b K : Nat} {c : Option (List UInt8)} {v : AV} {s : Str} (hp : PlI h0 h' b c K v s) : PlI h0 (h' ++ l) b c K v s := by
  obtain ⟨p1, p2, p3, B, p4, p5⟩ := hp
  exact ⟨by simp; omega, p2, p3.frame (List.getElem?_append_left p3.lt), B, p4.frame fun x hx => List.getElem?_append_left (p4.lt x hx), p5⟩
theorem PlI.lenA {h0 h' : H} {b K : Nat} {c : Option (List UInt8)} {v : AV} {s : Str} (hp : PlI h0 h' b c K v s) : lenA v = some (.int .i64 s.length) := by
  obtain ⟨p1, p2, p3, B, ⟨_, p4⟩, p5⟩ := hp
  rcases p4 with ⟨rfl, h0, _⟩ | ⟨b, rfl, _, _⟩
  · rw [h0]; rfl
  · rfl
theorem PlI.cbs {h0 h' : H} {b K : Nat} {c : Option (List UInt8)} {v : AV} {s : Str} (hp : PlI h0 h' b c K v s) : cbsA h' v = some (.str s) := by
  obtain ⟨p1, p2, p3, B, p4, p5⟩ := hp
  exact cbs_S1 p4
theorem c_spec_l1Cur_next (b : Nat) (c : Option (List UInt8)) (K : Nat) (h : H) (hc : CurI h b c K) (hK : K ≤ 1000000000) :
    Call Tryz.prog 131 [.adr b 0] h (fun b' => b' = b) (fun x h' => (∃ n : Int, x = .int .i64 n ∧ 0 ≤ n ∧ n ≤ 255) ∧ CurS h h' b c (K + 1)) := by
  refine enter (by kernel_rfl) e131 (by kernel_rfl) rfl fun hok => ?_
  simp only [r131, initEnv_1]
  obtain ⟨a, sd, hcs, ha⟩ := hc
  have hlt := cells_lt hcs
  have hpm : (b = b) = True := by simp
  have hw1 := fun cs => cells_wr hlt cs
  have hw2 := fun cs cs' => wr_wr (h := h) (b := b) cs cs'
  have fin : ∀ (sd' : Int), CurS h (wr h b [eU c, .int .i64 ((a : Int) + 1), .int .u64 sd']) b c (K + 1) := fun sd' => by
    refine ⟨by simp [wr], fun b' hb' => ?_, a + 1, sd', ?_, by omega⟩
    · unfold wr
      rw [List.getElem?_set_ne (Ne.symm hb')]
    · rw [cells_wr hlt]
      simp
  by_cases hlt2 : a < (lU c).length
  · have hcb : ((lU c).getD a 0).toNat < 256 := UInt8.toNat_lt _
    (try (simp (disch := first | omega | (simp <;> omega) | fail) only [push_cast, ↓reduceIte, Nat.reduceEqDiff, Nat.reduceAdd, Nat.reduceMul, Nat.reduceSub, Nat.reduceLT, Int.reduceToNat, hcs, hpm, hw1, hw2]))
    all_goals (try exact ⟨⟨_, rfl, by omega, by omega⟩, fin _⟩)
  · (try (simp (disch := first | omega | (simp <;> omega) | fail) only [push_cast, ↓reduceIte, Nat.reduceEqDiff, Nat.reduceAdd, Nat.reduceMul, Nat.reduceSub, Nat.reduceLT, Int.reduceToNat, hcs, hpm, hw1, hw2, wrap_and255]))
    all_goals (try exact ⟨⟨_, rfl, (and255 _).1, (and255 _).2⟩, fin _⟩)

theorem c_spec_l1Cur_pick (b : Nat) (c : Option (List UInt8)) (K : Nat) (h : H) (n : Int) (hc : CurI h b c K) (hK : K ≤ 1000000000) (hn : 1 < n) (hn2 : n ≤ 200) :
    Call Tryz.prog 71 [.adr b 0, .int .i64 n] h (fun b' => b' = b) (fun x h' => (∃ m : Int, x = .int .i64 m ∧ 0 ≤ m ∧ m < n) ∧ CurS h h' b c (K + 1)) := by
  refine enter (by kernel_rfl) e71 (by kernel_rfl) rfl fun hok => ?_
  simp only [r71, initEnv_2]
  (try (simp (disch := first | omega | (simp <;> omega) | fail) only [push_cast, ↓reduceIte, Nat.reduceEqDiff, Nat.reduceAdd, Nat.reduceMul, Nat.reduceSub, Nat.reduceLT, Int.reduceToNat]))
  refine (c_spec_l1Cur_next b c K h hc hK).mono (fun x h' hx => ?_) (fun b' _ hb' => Or.inl hb')
  obtain ⟨⟨m, rfl, m0, m1⟩, hs⟩ := hx
  have h1 := Int.emod_nonneg m (show n ≠ 0 by omega)
  have h2 := Int.emod_lt_of_pos m (show 0 < n by omega)
  (try (simp (disch := first | omega | (simp <;> omega) | fail) only [push_cast, ↓reduceIte, Nat.reduceEqDiff, Nat.reduceAdd, Nat.reduceMul, Nat.reduceSub, Nat.reduceLT, Int.reduceToNat]))
  all_goals (try exact ⟨⟨_, rfl, h1, h2⟩, hs⟩)

def PickR (n m : Int) : Prop := 0 ≤ m ∧ (m < n ∨ m = 0)

theorem c_spec_l1Cur_pickAny (b : Nat) (c : Option (List UInt8)) (K : Nat) (h : H) (n : Int) (hc : CurI h b c K) (hK : K ≤ 1000000000) (hn2 : n ≤ 200) :
    Call Tryz.prog 71 [.adr b 0, .int .i64 n] h (fun b' => b' = b) (fun x h' => (∃ m : Int, x = .int .i64 m ∧ PickR n m) ∧ CurS h h' b c (K + 1)) := by
  by_cases hn : 1 < n
  · exact (c_spec_l1Cur_pick b c K h n hc hK hn hn2).mono (fun x h' hx => by
      obtain ⟨⟨m, rfl, m0, m1⟩, hs⟩ := hx
      exact ⟨⟨m, rfl, m0, .inl m1⟩, hs⟩) (fun _ _ h => h)
  · refine enter (by kernel_rfl) e71 (by kernel_rfl) rfl fun hok => ?_
    simp only [r71, initEnv_2]
    have hs : CurS h h b c (K + 1) := ⟨rfl, fun _ _ => rfl, hc.mono (by omega)⟩
    (try (simp (disch := first | omega | (simp <;> omega) | fail) only [push_cast, ↓reduceIte, Nat.reduceEqDiff, Nat.reduceAdd, Nat.reduceMul, Nat.reduceSub, Nat.reduceLT, Int.reduceToNat]))
    all_goals (try exact ⟨⟨_, rfl, Int.le_refl _, .inr rfl⟩, hs⟩)
theorem c_spec_l1Cur_one (b : Nat) (c : Option (List UInt8)) (K : Nat) (h : H) (n : Int) (hc : CurI h b c K) (hK : K ≤ 1000000000) (hn : 1 < n) (hn2 : n ≤ 200) :
    Call Tryz.prog 70 [.adr b 0, .int .i64 n] h (fun b' => b' = b) (fun x h' => (∃ t : Bool, x = .bool t) ∧ CurS h h' b c (K + 1)) := by
  refine enter (by kernel_rfl) e70 (by kernel_rfl) rfl fun hok => ?_
  simp only [r70, initEnv_2]
  (try (simp (disch := first | omega | (simp <;> omega) | fail) only [push_cast, ↓reduceIte, Nat.reduceEqDiff, Nat.reduceAdd, Nat.reduceMul, Nat.reduceSub, Nat.reduceLT, Int.reduceToNat]))
  refine (c_spec_l1Cur_pick b c K h n hc hK hn hn2).mono (fun x h' hx => ?_) (fun b' _ hb' => Or.inl hb')
  obtain ⟨⟨m, rfl, m0, m1⟩, hs⟩ := hx
  by_cases hz : m = 0
  · (try (simp (disch := first | omega | (simp <;> omega) | fail) only [push_cast, ↓reduceIte, Nat.reduceEqDiff, Nat.reduceAdd, Nat.reduceMul, Nat.reduceSub, Nat.reduceLT, Int.reduceToNat, hz]))
    all_goals (try exact ⟨⟨_, rfl⟩, hs⟩)
  · (try (simp (disch := first | omega | (simp <;> omega) | fail) only [push_cast, ↓reduceIte, Nat.reduceEqDiff, Nat.reduceAdd, Nat.reduceMul, Nat.reduceSub, Nat.reduceLT, Int.reduceToNat, hz]))
    all_goals (try exact ⟨⟨_, rfl⟩, hs⟩)

/-- What is new and seen is frozen; what is old stays, as the call has left it. -/
theorem Call.freezeF {P : Program} {f : FuncId} {args : List AV} {h : H} {W : Nat → Prop} {R : AV → H → Prop} (hc : Call P f args h W (fun x h' => ∃ t, Vw h' h.length x t ∧ R t h')) : Call P f args h W (fun x g => ∃ h', g = M.filt (fun b => decide (b < h.length)) h' ∧ R x h') := by
  refine ⟨hc.1, fun S w μ cargs hr ha => (hc.2 S w μ cargs hr ha).mono ?_⟩
  rintro e w' ⟨v, x, h', S', μ', rfl, ⟨t, hvw, hR⟩, hv, hr', hs⟩
  have hlen : μ.length = h.length := hr.len
  have hvt := hvw.sound hr' (M.filt (fun b => decide (b < h.length)) μ') hv
  have hr2 := hr'.filt fun b => decide (b < h.length)
  have hf : Fwd S' w' (M.filt (fun b => decide (b < h.length)) μ') (Kept S' μ' h.length) w' (M.filt (fun b => decide (b < h.length)) μ') := ⟨fun B hB => .inl hB, fun _ _ => rfl, Nat.le_refl _, fun _ _ => .inl rfl⟩
  have hft : ∀ b, b < μ.length → (M.filt (fun b => decide (b < h.length)) μ')[b]? = μ'[b]? := fun b hb => filt_t (by simp; omega)
  refine ⟨v, t, M.filt (fun b => decide (b < h.length)) h', Kept S' μ' h.length, M.filt (fun b => decide (b < h.length)) μ', rfl, ⟨h', rfl, hR⟩, hvt, ⟨hr2.len, fun b o hb => ?_, hr2.dead, hr2.inj, fun b m hm hk => ?_, kept_lt hr', hr'.gl.fwd (fun B hB => .inl hB) (fun _ _ => rfl)⟩, ⟨⟨fun B hB => .inl (hs.s B hB), fun B hB => hs.blk B hB, ?_, fun b hb => ?_⟩, hs.size, hs.os, hs.output, hs.tape, hs.drawn, fun b hb hnW => ?_⟩⟩
  · obtain ⟨m, hm, ho⟩ := hr2.obj b o hb
    exact ⟨m, hm, ho.fwd hf rfl⟩
  · obtain ⟨h1, h2⟩ := filt_some hm
    rcases hk with hk | ⟨b', m', hb', hm', he⟩
    · exact hr'.out b m h2 hk
    · have := hr'.inj b' b m' m hm' h2 he
      have := of_decide_eq_true h1
      omega
  · have := hs.len
    rwa [filt_len]
  · rw [hft b hb]
    exact hs.mu b hb
  · obtain ⟨e1, e2⟩ := hs.kept b hb hnW
    exact ⟨(hft b hb).trans e1, e2⟩

/-- A call that draws: what is old stays, but for the cursor. -/
def CurF (h g : H) (b : Nat) (c : Option (List UInt8)) (K : Nat) : Prop := h.length ≤ g.length ∧ (∀ k, k < h.length → k ≠ b → g[k]? = h[k]?) ∧ CurI g b c K
theorem CurS.f {h g : H} {b K : Nat} {c : Option (List UInt8)} (hs : CurS h g b c K) : CurF h g b c K := ⟨by rw [hs.1]; exact Nat.le_refl _, fun k _ hn => hs.2.1 k hn, hs.2.2⟩
theorem CurF.refl {h : H} {b K : Nat} {c : Option (List UInt8)} (hc : CurI h b c K) : CurF h h b c K := ⟨Nat.le_refl _, fun _ _ _ => rfl, hc⟩
theorem CurF.trans {h g g2 : H} {b K K' : Nat} {c : Option (List UInt8)} (h1 : CurF h g b c K) (h2 : CurF g g2 b c K') : CurF h g2 b c K' :=
  ⟨Nat.le_trans h1.1 h2.1, fun k hk hn => (h2.2.1 k (Nat.lt_of_lt_of_le hk h1.1) hn).trans (h1.2.1 k hk hn), h2.2.2⟩
theorem CurF.mono {h g : H} {b K K' : Nat} {c : Option (List UInt8)} (h1 : CurF h g b c K) (hk : K ≤ K') : CurF h g b c K' := ⟨h1.1, h1.2.1, h1.2.2.mono hk⟩
theorem CurF.more {h g l : H} {b K : Nat} {c : Option (List UInt8)} (h1 : CurF h g b c K) : CurF h (g ++ l) b c K :=
  ⟨by rw [List.length_append]; exact Nat.le_trans h1.1 (Nat.le_add_right _ _), fun k hk hn => (List.getElem?_append_left (Nat.lt_of_lt_of_le hk h1.1)).trans (h1.2.1 k hk hn), h1.2.2.frame (List.getElem?_append_left h1.2.2.lt)⟩
theorem CurF.cells {h g : H} {b K k : Nat} {c : Option (List UInt8)} {cs : List AV} (h1 : CurF h g b c K) (hc : h.cells k = some cs) (hn : k ≠ b) : g.cells k = some cs := cells_keep (h1.2.1 k (cells_lt hc) hn) hc
/-- What such a call returns is frozen. -/
theorem Call.cur {P : Program} {f : FuncId} {args : List AV} {h : H} {W : Nat → Prop} {R : AV → Prop} {b K : Nat} {c : Option (List UInt8)} (hb : b < h.length) (hc : Call P f args h W (fun x h' => ∃ t, Vw h' h.length x t ∧ R t ∧ CurF h h' b c K)) : Call P f args h W (fun x g => R x ∧ CurF h g b c K) := by
  refine (Call.freezeF (R := fun t h' => R t ∧ CurF h h' b c K) hc).mono (fun x g hg => ?_) (fun _ _ h => h)
  obtain ⟨h', rfl, hR, h1, h2, h3⟩ := hg
  exact ⟨hR, by rw [filt_len]; exact h1, fun k hk hn => (filt_t (by simpa using hk)).trans (h2 k hk hn), h3.frame (filt_t (by simpa using hb))⟩
/-- A slice that grows while one draws. -/
def GrD {α : Type} (f : α → AV) (h g : H) (b : Nat) (c : Option (List UInt8)) (K : Nat) (v : AV) (l : List α) : Prop := CurF h g b c K ∧ b < h.length ∧ ∃ B, S1 g 1 v l.length (l.map f) B ∧ ∀ x ∈ B, h.length ≤ x
theorem GrD.start {α : Type} {f : α → AV} {h : H} {b K : Nat} {c : Option (List UInt8)} (hc : CurI h b c K) : GrD f h h b c K .nils [] := ⟨.refl hc, hc.lt, [], S1.nil, by simp⟩
theorem GrD.step {α : Type} {f : α → AV} {h g g2 : H} {b K K' : Nat} {c : Option (List UInt8)} {v : AV} {l : List α} (hg : GrD f h g b c K v l) (hF : CurF g g2 b c K') : GrD f h g2 b c K' v l := by
  obtain ⟨h1, h2, B, h3, h4⟩ := hg
  exact ⟨h1.trans hF, h2, B, h3.frame fun k hk => hF.2.1 k (h3.lt k hk) (by have := h4 k hk; omega), h4⟩
theorem GrD.more {α : Type} {f : α → AV} {h g l2 : H} {b K : Nat} {c : Option (List UInt8)} {v : AV} {l : List α} (hg : GrD f h g b c K v l) : GrD f h (g ++ l2) b c K v l := hg.step (CurF.refl hg.1.2.2).more
theorem GrD.mono {α : Type} {f : α → AV} {h g : H} {b K K' : Nat} {c : Option (List UInt8)} {v : AV} {l : List α} (hg : GrD f h g b c K v l) (hk : K ≤ K') : GrD f h g b c K' v l := hg.step ((CurF.refl hg.1.2.2).mono hk)
theorem GrD.one_ {α : Type} {f : α → AV} {h g : H} {b K : Nat} {c : Option (List UInt8)} {v : AV} {l : List α} (hg : GrD f h g b c K v l) : one v = true ∧ cellsOf v = [v] := by
  obtain ⟨h1, h2, B, h3, h4⟩ := hg
  exact h3.one_
theorem GrD.lenA {α : Type} {f : α → AV} {h g : H} {b K : Nat} {c : Option (List UInt8)} {v : AV} {l : List α} (hg : GrD f h g b c K v l) : lenA v = some (.int .i64 l.length) := by
  obtain ⟨h1, h2, B, h3, h4⟩ := hg
  rcases h3.2 with ⟨rfl, h0, _⟩ | ⟨b, rfl, _, _⟩
  · rw [h0]; rfl
  · rfl
theorem GrD.app {α : Type} {f : α → AV} {h g : H} {b K by_ : Nat} {c : Option (List UInt8)} {v : AV} {l : List α} {a : α} {x : AV} {pm : Nat → Prop} {Q : AV → H → Prop} (hg : GrD f h g b c K v l) (hx : x = f a) (hpm : ∀ k, h.length ≤ k → pm k) (hb : (l.length + 1) * by_ ≤ 140737488355328)
    (hQ : ∀ v' g2, GrD f h g2 b c K v' (l ++ [a]) → Q v' g2) : apA pm (g ++ [some (.cells [x])]) Q 1 by_ (some ([x], 1)) v := by
  obtain ⟨h1, h2, B, h3, h4⟩ := hg
  subst hx
  refine (h3.frame (h' := g ++ _) fun k hk => List.getElem?_append_left (h3.lt k hk)).app0 (new := [f a]) (k := 1) (by_ := by_) (fun k hk => hpm k (h4 k hk)) rfl hb fun u2 g2 B2 a1 a2 a3 a4 a5 => ?_
  simp only [List.length_append, List.length_cons, List.length_nil] at a2 a3 a4
  have hl := h1.1
  have hk2 : ∀ k, k < g.length → k ∉ B → g2[k]? = g[k]? := fun k hk hn => (a3 k (by omega) hn).trans (List.getElem?_append_left hk)
  refine hQ u2 g2 ⟨⟨by omega, fun k hk hn => (hk2 k (by omega) fun h5 => by have := h4 k h5; omega).trans (h1.2.1 k hk hn), h1.2.2.frame (hk2 b (by omega) fun h5 => by have := h4 b h5; omega)⟩, h2, B2, by simpa using a1, fun k hk => ?_⟩
  rcases a4 k hk with h5 | h5
  · exact h4 k h5
  · omega
def f8 (c : UInt8) : AV := .int .u8 (c.toNat : Int)
theorem GrD.cbs {h g : H} {b K : Nat} {c : Option (List UInt8)} {v : AV} {s : Str} (hg : GrD f8 h g b c K v s) : cbsA g v = some (.str s) := by
  obtain ⟨h1, h2, B, h3, h4⟩ := hg
  exact cbs_S1 h3

theorem c_spec_l1Cur_key (b : Nat) (c : Option (List UInt8)) (K : Nat) (h : H) (hcu : CurI h b c K) (hK : K ≤ 100000000) :
    Call Tryz.prog 132 [.adr b 0] h (fun b' => b' = b) (fun x g => (∃ s : Str, x = .str s ∧ s.length ≤ 12) ∧ CurF h g b c (K + 6)) := by
  refine Call.cur hcu.lt ?_
  refine enter (by kernel_rfl) e132 (by kernel_rfl) rfl fun hok => ?_
  simp only [r132, initEnv_1]
  have hbl := hcu.lt
  (try (simp (disch := first | omega | (simp <;> omega) | fail) only [push_cast, ↓reduceIte, Nat.reduceEqDiff, Nat.reduceAdd, Nat.reduceMul, Nat.reduceSub, Nat.reduceLT, Int.reduceToNat]))
  refine (c_spec_l1Cur_pick b c K h 4 hcu (by omega) (by omega) (by omega)).mono (fun x h1 hx => ?_) (fun b' _ hb' => Or.inl hb')
  obtain ⟨⟨q, rfl, q0, q1⟩, hs⟩ := hx
  obtain ⟨mm, hmm⟩ : ∃ mm : Nat, 1 + q = (mm : Int) := ⟨(1 + q).toNat, by omega⟩
  have hG1 : GrD f8 h h1 b c (K + 1) .nils [] := (GrD.start hcu).step hs.f
  (try (simp (disch := first | omega | (simp <;> omega) | fail) only [push_cast, ↓reduceIte, Nat.reduceEqDiff, Nat.reduceAdd, Nat.reduceMul, Nat.reduceSub, Nat.reduceLT, Int.reduceToNat, hmm]))
  refine T_for mm (fun i e g => ∃ v s, Pins e [(0, .adr b 0), (3, v), (4, .int .i64 ((mm : Int) - i))] ∧ GrD f8 h g b c (K + 1 + i) v s ∧ s.length = i) ?_ ?_
  · refine ⟨.nils, [], ?_, hG1, rfl⟩
    (try (simp (disch := first | omega | (simp <;> omega) | fail) only [push_cast, ↓reduceIte, Nat.reduceEqDiff, Nat.reduceAdd, Nat.reduceMul, Nat.reduceSub, Nat.reduceLT, Int.reduceToNat]))
    all_goals (try simp)
  rintro i e g hi ⟨v, s, hp, hG, hsl⟩
  refine T_pins hp fun e => ?_
  (try (simp (disch := first | omega | (simp <;> omega) | fail) only [push_cast, ↓reduceIte, Nat.reduceEqDiff, Nat.reduceAdd, Nat.reduceMul, Nat.reduceSub, Nat.reduceLT, Int.reduceToNat]))
  first | refine goC_split (fun hc => ?_) (fun hc => ?_) | refine cnd_split (fun hc => ?_) (fun hc => ?_)
  · (try (simp only [decide_eq_true_eq, decide_eq_false_iff_not, Bool.not_eq_true', Bool.not_eq_false', Bool.and_eq_true, Bool.or_eq_true, Int.not_lt, Int.not_le] at hc)); (try (simp (disch := first | omega | (simp <;> omega) | fail) only [push_cast, ↓reduceIte, Nat.reduceEqDiff, Nat.reduceAdd, Nat.reduceMul, Nat.reduceSub, Nat.reduceLT, Int.reduceToNat]))
    refine (c_spec_l1Cur_pick b c _ g 11 hG.1.2.2 (by omega) (by omega) (by omega)).mono (fun x g2 hx => ?_) (fun b' _ hb' => Or.inl hb')
    obtain ⟨⟨k, rfl, k0, k1⟩, hs2⟩ := hx
    have hG2 := hG.step hs2.f
    (try (simp (disch := first | omega | (simp <;> omega) | fail) only [push_cast, ↓reduceIte, Nat.reduceEqDiff, Nat.reduceAdd, Nat.reduceMul, Nat.reduceSub, Nat.reduceLT, Int.reduceToNat]))
    refine hG2.app (a := ([97, 97, 98, 98, 99, 120, 121, 122, 33, 125, 48] : List UInt8).getD k.toNat 0) (by_ := 1) rfl (fun y hy => Or.inr hy) (by omega) fun v2 g3 hG3 => ?_
    (try (simp (disch := first | omega | (simp <;> omega) | fail) only [push_cast, ↓reduceIte, Nat.reduceEqDiff, Nat.reduceAdd, Nat.reduceMul, Nat.reduceSub, Nat.reduceLT, Int.reduceToNat]))
    all_goals (try exact ⟨_, _, rfl, hG3, by simp [hsl]⟩)
    all_goals (try exact ⟨_, _, ⟨rfl, by omega⟩, hG3, by simp [hsl]⟩)
  · (try (simp only [decide_eq_true_eq, decide_eq_false_iff_not, Bool.not_eq_true', Bool.not_eq_false', Bool.and_eq_true, Bool.or_eq_true, Int.not_lt, Int.not_le] at hc)); (try (simp (disch := first | omega | (simp <;> omega) | fail) only [push_cast, ↓reduceIte, Nat.reduceEqDiff, Nat.reduceAdd, Nat.reduceMul, Nat.reduceSub, Nat.reduceLT, Int.reduceToNat]))
    refine (c_spec_l1Cur_one b c _ g 12 hG.1.2.2 (by omega) (by omega) (by omega)).mono (fun x g2 hx => ?_) (fun b' _ hb' => Or.inl hb')
    obtain ⟨⟨t, rfl⟩, hs2⟩ := hx
    have hG2 := hG.step hs2.f
    cases t
    · have hcb := hG2.cbs
      (try (simp (disch := first | omega | (simp <;> omega) | fail) only [push_cast, ↓reduceIte, Nat.reduceEqDiff, Nat.reduceAdd, Nat.reduceMul, Nat.reduceSub, Nat.reduceLT, Int.reduceToNat, hcb]))
      all_goals (try exact ⟨_, .free free_str, ⟨_, rfl, by omega⟩, hG2.1.mono (by omega)⟩)
    · (try (simp (disch := first | omega | (simp <;> omega) | fail) only [push_cast, ↓reduceIte, Nat.reduceEqDiff, Nat.reduceAdd, Nat.reduceMul, Nat.reduceSub, Nat.reduceLT, Int.reduceToNat]))
      refine T_for (12 - i) (fun j e g' => ∃ v s', Pins e [(3, v)] ∧ GrD f8 h g' b c (K + 1 + i + 1) v s' ∧ s'.length = i + j) ?_ ?_
      · refine ⟨v, s, ?_, hG2, by omega⟩
        (try (simp (disch := first | omega | (simp <;> omega) | fail) only [push_cast, ↓reduceIte, Nat.reduceEqDiff, Nat.reduceAdd, Nat.reduceMul, Nat.reduceSub, Nat.reduceLT, Int.reduceToNat]))
      rintro j e g' hj ⟨v', s', hp, hG', hsl'⟩
      refine T_pins hp fun e => ?_
      have hlv := hG'.lenA
      (try (simp (disch := first | omega | (simp <;> omega) | fail) only [push_cast, ↓reduceIte, Nat.reduceEqDiff, Nat.reduceAdd, Nat.reduceMul, Nat.reduceSub, Nat.reduceLT, Int.reduceToNat, hlv]))
      first | refine goC_split (fun hd => ?_) (fun hd => ?_) | refine cnd_split (fun hd => ?_) (fun hd => ?_)
      · (try (simp only [decide_eq_true_eq, decide_eq_false_iff_not, Bool.not_eq_true', Bool.not_eq_false', Bool.and_eq_true, Bool.or_eq_true, Int.not_lt, Int.not_le] at hd)); (try (simp (disch := first | omega | (simp <;> omega) | fail) only [push_cast, ↓reduceIte, Nat.reduceEqDiff, Nat.reduceAdd, Nat.reduceMul, Nat.reduceSub, Nat.reduceLT, Int.reduceToNat]))
        refine hG'.app (a := 97) (by_ := 1) rfl (fun y hy => Or.inr hy) (by omega) fun v2 g3 hG3 => ?_
        (try (simp (disch := first | omega | (simp <;> omega) | fail) only [push_cast, ↓reduceIte, Nat.reduceEqDiff, Nat.reduceAdd, Nat.reduceMul, Nat.reduceSub, Nat.reduceLT, Int.reduceToNat]))
        all_goals (try exact ⟨by omega, _, _, rfl, hG3, by simp; omega⟩)
        all_goals (try exact ⟨_, _, rfl, hG3, by simp; omega⟩)
      · (try (simp only [decide_eq_true_eq, decide_eq_false_iff_not, Bool.not_eq_true', Bool.not_eq_false', Bool.and_eq_true, Bool.or_eq_true, Int.not_lt, Int.not_le] at hd)); (try (simp (disch := first | omega | (simp <;> omega) | fail) only [push_cast, ↓reduceIte, Nat.reduceEqDiff, Nat.reduceAdd, Nat.reduceMul, Nat.reduceSub, Nat.reduceLT, Int.reduceToNat]))
        have hcb := hG'.cbs
        (try (simp (disch := first | omega | (simp <;> omega) | fail) only [push_cast, ↓reduceIte, Nat.reduceEqDiff, Nat.reduceAdd, Nat.reduceMul, Nat.reduceSub, Nat.reduceLT, Int.reduceToNat, hcb]))
        all_goals (try exact ⟨_, .free free_str, ⟨_, rfl, by omega⟩, hG'.1.mono (by omega)⟩)

theorem c_spec_l1Cur_of (b : Nat) (c : Option (List UInt8)) (K : Nat) (h : H) (b2 : Nat) (L : List Str) (hcu : CurI h b c K) (hK : K ≤ 1000000000) (hL : 1 < L.length) (hL2 : L.length ≤ 200) (hb2 : h.cells b2 = some (L.map .str)) (hne : b2 ≠ b) :
    Call Tryz.prog 133 [.adr b 0, .sl b2 0 1 L.length L.length] h (fun b' => b' = b) (fun x h' => (∃ s : Str, x = .str s ∧ s ∈ L) ∧ CurS h h' b c (K + 1)) := by
  refine enter (by kernel_rfl) e133 (by kernel_rfl) rfl fun hok => ?_
  simp only [r133, initEnv_2]
  (try (simp (disch := first | omega | (simp <;> omega) | fail) only [push_cast, ↓reduceIte, Nat.reduceEqDiff, Nat.reduceAdd, Nat.reduceMul, Nat.reduceSub, Nat.reduceLT, Int.reduceToNat]))
  refine (c_spec_l1Cur_pick b c K h L.length hcu hK (by omega) (by omega)).mono (fun x h' hx => ?_) (fun b' _ hb' => Or.inl hb')
  obtain ⟨⟨m, rfl, m0, m1⟩, hs⟩ := hx
  have hb3 : h'.cells b2 = some (L.map .str) := cells_keep (hs.2.1 b2 hne) hb2
  have hget : (L.map AV.str)[m.toNat]? = some (.str (L.getD m.toNat [])) := by
    have : m.toNat < L.length := by omega
    simp [this]
  have hmem : L.getD m.toNat [] ∈ L := getD_mem (by omega)
  (try (simp (disch := first | omega | (simp <;> omega) | fail) only [push_cast, ↓reduceIte, Nat.reduceEqDiff, Nat.reduceAdd, Nat.reduceMul, Nat.reduceSub, Nat.reduceLT, Int.reduceToNat, hb3, hget]))
  all_goals (try exact ⟨⟨_, rfl, hmem⟩, hs⟩)

theorem c_spec_l1Cur_text (b : Nat) (c : Option (List UInt8)) (K : Nat) (h : H) (hcu : CurI h b c K) (hK : K ≤ 10000000) :
    Call Tryz.prog 73 [.adr b 0] h (fun b' => b' = b) (fun x g => (∃ s : Str, x = .str s ∧ s.length ≤ 13) ∧ CurF h g b c (K + 8)) := by
  refine Call.cur hcu.lt ?_
  refine enter (by kernel_rfl) e73 (by kernel_rfl) rfl fun hok => ?_
  simp only [r73, initEnv_1]
  have hbl := hcu.lt
  (try (simp (disch := first | omega | (simp <;> omega) | fail) only [push_cast, ↓reduceIte, Nat.reduceEqDiff, Nat.reduceAdd, Nat.reduceMul, Nat.reduceSub, Nat.reduceLT, Int.reduceToNat]))
  refine (c_spec_l1Cur_pick b c K h 16 hcu (by omega) (by omega) (by omega)).mono (fun x h1 hx => ?_) (fun b' _ hb' => Or.inl hb')
  obtain ⟨⟨k, rfl, k0, k1⟩, hs⟩ := hx
  have hF := hs.f
  by_cases z0 : k = 0
  · (try (simp (disch := first | omega | (simp <;> omega) | fail) only [push_cast, ↓reduceIte, Nat.reduceEqDiff, Nat.reduceAdd, Nat.reduceMul, Nat.reduceSub, Nat.reduceLT, Int.reduceToNat, z0]))
    all_goals (try exact ⟨_, .free free_str, ⟨_, rfl, by simp⟩, hF.mono (by omega)⟩)
  by_cases z1 : k = 1
  · (try (simp (disch := first | omega | (simp <;> omega) | fail) only [push_cast, ↓reduceIte, Nat.reduceEqDiff, Nat.reduceAdd, Nat.reduceMul, Nat.reduceSub, Nat.reduceLT, Int.reduceToNat, z1]))
    refine (c_spec_l1Cur_key b c _ h1 hs.2.2 (by omega)).mono (fun x h2 hx => ?_) (fun b' _ hb' => Or.inl hb')
    obtain ⟨⟨s, rfl, hsl⟩, hF2⟩ := hx
    (try (simp (disch := first | omega | (simp <;> omega) | fail) only [push_cast, ↓reduceIte, Nat.reduceEqDiff, Nat.reduceAdd, Nat.reduceMul, Nat.reduceSub, Nat.reduceLT, Int.reduceToNat]))
    all_goals (try exact ⟨_, .free free_str, ⟨_, rfl, by simp; omega⟩, (hF.trans hF2).mono (by omega)⟩)
  by_cases z2 : k = 2
  · (try (simp (disch := first | omega | (simp <;> omega) | fail) only [push_cast, ↓reduceIte, Nat.reduceEqDiff, Nat.reduceAdd, Nat.reduceMul, Nat.reduceSub, Nat.reduceLT, Int.reduceToNat, z2]))
    all_goals (try exact ⟨_, .free free_str, ⟨_, rfl, by simp⟩, hF.mono (by omega)⟩)
  by_cases z3 : k = 3
  · (try (simp (disch := first | omega | (simp <;> omega) | fail) only [push_cast, ↓reduceIte, Nat.reduceEqDiff, Nat.reduceAdd, Nat.reduceMul, Nat.reduceSub, Nat.reduceLT, Int.reduceToNat, z3]))
    refine ⟨rfl, ?_⟩
    have hM := (CurF.refl hs.2.2).more (l := [some (AObj.cells (([[126], [125], [97, 126], [127]] : List Str).map .str))])
    refine (c_spec_l1Cur_of b c _ (h1 ++ [some (AObj.cells (([[126], [125], [97, 126], [127]] : List Str).map .str))]) h1.length [[126], [125], [97, 126], [127]] hM.2.2 (by omega) (by decide) (by decide) (by rw [cells_h0]; rfl) (by have := hs.2.2.lt; omega)).mono (fun x h2 hx => ?_) (fun b' _ hb' => Or.inl hb')
    obtain ⟨⟨s, rfl, hsm⟩, hs2⟩ := hx
    have hsl : s.length ≤ 13 := by
      simp at hsm
      rcases hsm with rfl | rfl | rfl | rfl <;> simp
    have hF2 := (hF.trans hM).trans hs2.f
    (try (simp (disch := first | omega | (simp <;> omega) | fail) only [push_cast, ↓reduceIte, Nat.reduceEqDiff, Nat.reduceAdd, Nat.reduceMul, Nat.reduceSub, Nat.reduceLT, Int.reduceToNat]))
    all_goals (try exact ⟨_, .free free_str, ⟨_, rfl, hsl⟩, hF2.mono (by omega)⟩)
  (try (simp (disch := first | omega | (simp <;> omega) | fail) only [push_cast, ↓reduceIte, Nat.reduceEqDiff, Nat.reduceAdd, Nat.reduceMul, Nat.reduceSub, Nat.reduceLT, Int.reduceToNat, z0, z1, z2, z3]))
  refine (c_spec_l1Cur_key b c _ h1 hs.2.2 (by omega)).mono (fun x h2 hx => ?_) (fun b' _ hb' => Or.inl hb')
  obtain ⟨⟨s, rfl, hsl⟩, hF2⟩ := hx
  (try (simp (disch := first | omega | (simp <;> omega) | fail) only [push_cast, ↓reduceIte, Nat.reduceEqDiff, Nat.reduceAdd, Nat.reduceMul, Nat.reduceSub, Nat.reduceLT, Int.reduceToNat]))
  all_goals (try exact ⟨_, .free free_str, ⟨_, rfl, by omega⟩, (hF.trans hF2).mono (by omega)⟩)

theorem c_spec_l1Cur_among (b : Nat) (c : Option (List UInt8)) (K : Nat) (h : H) (b2 : Nat) (L : List Int) (hc : CurI h b c K) (hK : K ≤ 1000000000) (hL : 1 < L.length) (hL2 : L.length ≤ 200) (hb2 : h.cells b2 = some (L.map (.int .i64))) (hne : b2 ≠ b) :
    Call Tryz.prog 78 [.adr b 0, .sl b2 0 1 L.length L.length] h (fun b' => b' = b) (fun x h' => (∃ m : Int, x = .int .i64 m ∧ m ∈ L) ∧ CurS h h' b c (K + 1)) := by
  refine enter (by kernel_rfl) e78 (by kernel_rfl) rfl fun hok => ?_
  simp only [r78, initEnv_2]
  (try (simp (disch := first | omega | (simp <;> omega) | fail) only [push_cast, ↓reduceIte, Nat.reduceEqDiff, Nat.reduceAdd, Nat.reduceMul, Nat.reduceSub, Nat.reduceLT, Int.reduceToNat]))
  refine (c_spec_l1Cur_pick b c K h L.length hc hK (by omega) (by omega)).mono (fun x h' hx => ?_) (fun b' _ hb' => Or.inl hb')
  obtain ⟨⟨m, rfl, m0, m1⟩, hs⟩ := hx
  have hb3 : h'.cells b2 = some (L.map (.int .i64)) := by
    rw [cells_eq, hs.2.1 b2 hne, ← cells_eq]
    exact hb2
  have hmem : L.getD m.toNat 0 ∈ L := by
    have : m.toNat < L.length := by omega
    simp [this]
  (try (simp (disch := first | omega | (simp <;> omega) | fail) only [push_cast, ↓reduceIte, Nat.reduceEqDiff, Nat.reduceAdd, Nat.reduceMul, Nat.reduceSub, Nat.reduceLT, Int.reduceToNat, hb3]))
  all_goals (try exact ⟨⟨_, rfl, hmem⟩, hs⟩)

theorem c_spec_l1Cur_pick2 (b : Nat) (c : Option (List UInt8)) (K : Nat) (h : H) (n : Int) (hcu : CurI h b c K) (hK : K ≤ 100000000) (hn : 200 < n) (hn2 : n ≤ 100000) :
    Call Tryz.prog 71 [.adr b 0, .int .i64 n] h (fun b' => b' = b) (fun x h' => (∃ m : Int, x = .int .i64 m ∧ 0 ≤ m ∧ m < n) ∧ CurS h h' b c (K + 2)) := by
  refine enter (by kernel_rfl) e71 (by kernel_rfl) rfl fun hok => ?_
  simp only [r71, initEnv_2]
  (try (simp (disch := first | omega | (simp <;> omega) | fail) only [push_cast, ↓reduceIte, Nat.reduceEqDiff, Nat.reduceAdd, Nat.reduceMul, Nat.reduceSub, Nat.reduceLT, Int.reduceToNat]))
  refine (c_spec_l1Cur_next b c K h hcu (by omega)).mono (fun x h' hx => ?_) (fun b' _ hb' => Or.inl hb')
  obtain ⟨⟨m, rfl, m0, m1⟩, hs⟩ := hx
  (try (simp (disch := first | omega | (simp <;> omega) | fail) only [push_cast, ↓reduceIte, Nat.reduceEqDiff, Nat.reduceAdd, Nat.reduceMul, Nat.reduceSub, Nat.reduceLT, Int.reduceToNat]))
  repeat' (with_reducible refine And.intro ?_ ?_)
  all_goals
    refine (c_spec_l1Cur_next b c (K + 1) h' hs.2.2 (by omega)).mono (fun x h2 hx => ?_) (fun b' _ hb' => Or.inl hb')
    obtain ⟨⟨m2, rfl, m20, m21⟩, hs2⟩ := hx
    have hs3 : CurS h h2 b c (K + 2) := ⟨hs2.1.trans hs.1, fun k hk => (hs2.2.1 k hk).trans (hs.2.1 k hk), hs2.2.2⟩
    have h1 := Int.emod_nonneg (m * 256 + m2) (show n ≠ 0 by omega)
    have h2 := Int.emod_lt_of_pos (m * 256 + m2) (show 0 < n by omega)
    (try (simp (disch := first | omega | (simp <;> omega) | fail) only [push_cast, ↓reduceIte, Nat.reduceEqDiff, Nat.reduceAdd, Nat.reduceMul, Nat.reduceSub, Nat.reduceLT, Int.reduceToNat]))
    all_goals (try exact ⟨⟨_, rfl, h1, h2⟩, hs3⟩)
/-- A number picked, from few or from many. -/
theorem c_spec_l1Cur_pickN (b : Nat) (c : Option (List UInt8)) (K : Nat) (h : H) (n : Int) (hcu : CurI h b c K) (hK : K ≤ 100000000) (hn : 1 < n) (hn2 : n ≤ 100000) :
    Call Tryz.prog 71 [.adr b 0, .int .i64 n] h (fun b' => b' = b) (fun x h' => (∃ m : Int, x = .int .i64 m ∧ 0 ≤ m ∧ m < n) ∧ CurS h h' b c (K + 2)) := by
  by_cases h1 : 200 < n
  · exact c_spec_l1Cur_pick2 b c K h n hcu hK h1 hn2
  · exact (c_spec_l1Cur_pick b c K h n hcu (by omega) hn (by omega)).mono (fun x h' hx => ⟨hx.1, hx.2.1, hx.2.2.1, hx.2.2.2.mono (by omega)⟩) (fun _ _ h => h)
theorem c_spec_l1Cur_seed9 (b : Nat) (c : Option (List UInt8)) (K : Nat) (h : H) (hcu : CurI h b c K) (hK : K ≤ 10000000) :
    Call Tryz.prog 130 [.adr b 0] h (fun b' => b' = b) (fun x g => (∃ n : Int, x = .int .i64 n ∧ -1 ≤ n ∧ n ≤ 10000) ∧ CurF h g b c (K + 4)) := by
  refine Call.cur hcu.lt ?_
  refine enter (by kernel_rfl) e130 (by kernel_rfl) rfl fun hok => ?_
  simp only [r130, initEnv_1]
  have hbl := hcu.lt
  (try (simp (disch := first | omega | (simp <;> omega) | fail) only [push_cast, ↓reduceIte, Nat.reduceEqDiff, Nat.reduceAdd, Nat.reduceMul, Nat.reduceSub, Nat.reduceLT, Int.reduceToNat]))
  refine (c_spec_l1Cur_pick b c K h 12 hcu (by omega) (by omega) (by omega)).mono (fun x h1 hx => ?_) (fun b' _ hb' => Or.inl hb')
  obtain ⟨⟨k, rfl, k0, k1⟩, hs⟩ := hx
  have hF := hs.f
  by_cases z0 : k = 0
  · (try (simp (disch := first | omega | (simp <;> omega) | fail) only [push_cast, ↓reduceIte, Nat.reduceEqDiff, Nat.reduceAdd, Nat.reduceMul, Nat.reduceSub, Nat.reduceLT, Int.reduceToNat, z0]))
    refine ⟨rfl, ?_⟩
    have hM := (CurF.refl hs.2.2).more (l := [some (AObj.cells (([-1, 9999, 10000] : List Int).map (.int .i64)))])
    refine (c_spec_l1Cur_among b c _ (h1 ++ [some (AObj.cells (([-1, 9999, 10000] : List Int).map (.int .i64)))]) h1.length [-1, 9999, 10000] hM.2.2 (by omega) (by decide) (by decide) (by rw [cells_h0]; rfl) (by have := hs.2.2.lt; omega)).mono (fun x h2 hx => ?_) (fun b' _ hb' => Or.inl hb')
    obtain ⟨⟨s, rfl, hsm⟩, hs2⟩ := hx
    have hF2 := (hF.trans hM).trans hs2.f
    have hsl : -1 ≤ s ∧ s ≤ 10000 := by
      simp at hsm
      omega
    (try (simp (disch := first | omega | (simp <;> omega) | fail) only [push_cast, ↓reduceIte, Nat.reduceEqDiff, Nat.reduceAdd, Nat.reduceMul, Nat.reduceSub, Nat.reduceLT, Int.reduceToNat]))
    all_goals (try exact ⟨_, .free free_int, ⟨_, rfl, hsl.1, hsl.2⟩, hF2.mono (by omega)⟩)
  by_cases z1 : k = 1
  · (try (simp (disch := first | omega | (simp <;> omega) | fail) only [push_cast, ↓reduceIte, Nat.reduceEqDiff, Nat.reduceAdd, Nat.reduceMul, Nat.reduceSub, Nat.reduceLT, Int.reduceToNat, z1]))
    refine (c_spec_l1Cur_pick2 b c _ h1 10000 hs.2.2 (by omega) (by omega) (by omega)).mono (fun x h2 hx => ?_) (fun b' _ hb' => Or.inl hb')
    obtain ⟨⟨s, rfl, s0, s1⟩, hs2⟩ := hx
    have hF2 := hF.trans hs2.f
    (try (simp (disch := first | omega | (simp <;> omega) | fail) only [push_cast, ↓reduceIte, Nat.reduceEqDiff, Nat.reduceAdd, Nat.reduceMul, Nat.reduceSub, Nat.reduceLT, Int.reduceToNat]))
    all_goals (try exact ⟨_, .free free_int, ⟨_, rfl, by omega, by omega⟩, hF2.mono (by omega)⟩)
  (try (simp (disch := first | omega | (simp <;> omega) | fail) only [push_cast, ↓reduceIte, Nat.reduceEqDiff, Nat.reduceAdd, Nat.reduceMul, Nat.reduceSub, Nat.reduceLT, Int.reduceToNat, z0, z1]))
  refine (c_spec_l1Cur_pick b c _ h1 20 hs.2.2 (by omega) (by omega) (by omega)).mono (fun x h2 hx => ?_) (fun b' _ hb' => Or.inl hb')
  obtain ⟨⟨s, rfl, s0, s1⟩, hs2⟩ := hx
  have hF2 := hF.trans hs2.f
  (try (simp (disch := first | omega | (simp <;> omega) | fail) only [push_cast, ↓reduceIte, Nat.reduceEqDiff, Nat.reduceAdd, Nat.reduceMul, Nat.reduceSub, Nat.reduceLT, Int.reduceToNat]))
  all_goals (try exact ⟨_, .free free_int, ⟨_, rfl, by omega, by omega⟩, hF2.mono (by omega)⟩)

theorem slc_two {h : H} {v : AV} {l : List Str} {B : List Nat} {i : Nat} (hS : S1 h 1 v l.length (l.map .str) B) (hi : i ≤ l.length) (hl : l.length ≤ 1000) : ∃ x1 x2, slcA 1 none (some (.int .i64 i)) v = some x1 ∧ slcA 1 (some (.int .i64 i)) none v = some x2 ∧
    ∀ g : H, (∀ k, k < h.length → g[k]? = h[k]?) → srcCells g false 1 x1 = some ((l.take i).map .str, i) ∧ srcCells g false 1 x2 = some ((l.drop i).map .str, l.length - i) := by
  rcases hS.2 with ⟨rfl, h0, _⟩ | ⟨b, rfl, _, hc⟩
  · have hl0 : l = [] := List.eq_nil_of_length_eq_zero h0
    subst hl0
    have hi0 : i = 0 := by simpa using hi
    subst hi0
    exact ⟨.nils, .nils, rfl, rfl, fun g _ => ⟨rfl, rfl⟩⟩
  · refine ⟨.sl b 0 1 i l.length, .sl b i 1 (l.length - i) (l.length - i), ?_, ?_, fun g hg => ?_⟩
    · rw [slcA_sl, bndA_int (by omega) (by omega)]
      simp [bndA_none]
    · rw [slcA_sl, bndA_none, Option.bind_some, bndA_int (by omega) (by omega)]
      simp
    · have hcg := cells_keep (hg b (cells_lt hc)) hc
      rw [src_sl, src_sl, hcg]
      simp only [Option.bind_some, List.length_map, Nat.mul_one, Nat.zero_add, List.drop_zero]
      rw [if_pos hi, if_pos (by omega)]
      refine ⟨by rw [List.map_take], ?_⟩
      rw [← List.map_drop, List.take_of_length_le (by simp)]
theorem c_spec_l1PutS (v : AV) (l : List Str) (B : List Nat) (s : Str) (h : H) (hS : S1 h 1 v l.length (l.map .str) B) (hl : l.length ≤ 1000) :
    Call Tryz.prog 168 [v, .str s] h Nowhere (fun x h' => h.length ≤ h'.length ∧ (∀ k, k < h.length → h'[k]? = h[k]?) ∧ ∃ (l' : List Str) (B' : List Nat), S1 h' 1 x l'.length (l'.map .str) B' ∧ (∀ k ∈ B', k ∈ B ∨ h.length ≤ k) ∧ l'.length ≤ l.length + 1) := by
  refine enter (by kernel_rfl) e168 (by kernel_rfl) rfl fun hok => ?_
  simp only [r168, initEnv_2]
  generalize hT : RCode.seq (.reg (⟨some 34, .m (.bsl 1 0 [.str []] []), none⟩ :: _)) _ = TL
  have tail : ∀ (i : Nat) (e : Env), i ≤ l.length → Pins e [(0, v), (1, .str s), (5, .int .i64 i)] → T Tryz.prog (fun b => Nowhere b ∨ h.length ≤ b) TL (K Tryz.prog (fun b => Nowhere b ∨ h.length ≤ b) [] (Ends [.t 4] fun x h' => h.length ≤ h'.length ∧ (∀ k, k < h.length → h'[k]? = h[k]?) ∧ ∃ (l' : List Str) (B' : List Nat), S1 h' 1 x l'.length (l'.map .str) B' ∧ (∀ k ∈ B', k ∈ B ∨ h.length ≤ k) ∧ l'.length ≤ l.length + 1)) e h := by
    intro i e hi hp
    rw [← hT]
    refine T_pins hp fun e => ?_
    obtain ⟨x1, x2, hx1, hx2, hsrc⟩ := slc_two hS hi hl
    have hs0 : S1 (h ++ [some (.cells [])]) 1 (.sl h.length 0 1 0 0) 0 [] [h.length] := ⟨by simp, .inr ⟨h.length, rfl, rfl, by rw [cells_h0]; rfl⟩⟩
    (try (simp (disch := first | omega | (simp <;> omega) | fail) only [push_cast, ↓reduceIte, Nat.reduceEqDiff, Nat.reduceAdd, Nat.reduceMul, Nat.reduceSub, Nat.reduceLT, Int.reduceToNat, hx1]))
    rw [(hsrc (h ++ [some (.cells [])]) fun k hk => List.getElem?_append_left hk).1]
    refine hs0.app0 (k := i) (by_ := 16) (fun b hb => Or.inr (by simp at hb; omega)) (by simp; omega) (by omega) fun v1 h1 B1 a1 a2 a3 a4 a5 => ?_
    simp only [List.length_append, List.length_cons, List.length_nil] at a2 a3
    have k1 : ∀ k, k < h.length → h1[k]? = h[k]? := fun k hk => (a3 k (by omega) (by simp; omega)).trans (List.getElem?_append_left hk)
    have b1 : ∀ k ∈ B1, h.length ≤ k := fun k hk => by rcases a4 k hk with h5 | h5 <;> simp at h5 <;> omega
    (try (simp (disch := first | omega | (simp <;> omega) | fail) only [push_cast, ↓reduceIte, Nat.reduceEqDiff, Nat.reduceAdd, Nat.reduceMul, Nat.reduceSub, Nat.reduceLT, Int.reduceToNat]))
    have b2 := a1.frame (h' := h1 ++ [some (.cells [.str s])]) fun c hc => List.getElem?_append_left (a1.lt c hc)
    refine b2.app0 (new := [.str s]) (k := 1) (by_ := 16) (fun b hb => Or.inr (b1 b hb)) (by simp) (by omega) fun v2 h2 B2 c1 c2 c3 c4 c5 => ?_
    simp only [List.length_append, List.length_cons, List.length_nil] at c2 c3 c4
    have k2 : ∀ k, k < h.length → h2[k]? = h[k]? := fun k hk => (c3 k (by omega) fun h5 => by have := b1 k h5; omega).trans ((List.getElem?_append_left (by omega)).trans (k1 k hk))
    have b3 : ∀ k ∈ B2, h.length ≤ k := fun k hk => by
      rcases c4 k hk with h5 | h5
      · exact b1 k h5
      · omega
    (try (simp (disch := first | omega | (simp <;> omega) | fail) only [push_cast, ↓reduceIte, Nat.reduceEqDiff, Nat.reduceAdd, Nat.reduceMul, Nat.reduceSub, Nat.reduceLT, Int.reduceToNat, hx2]))
    rw [(hsrc h2 k2).2]
    refine c1.app0 (k := l.length - i) (by_ := 16) (fun b hb => Or.inr (b3 b hb)) (by simp) (by omega) fun v3 h3 B3 d1 d2 d3 d4 d5 => ?_
    have hL : ((([] ++ (l.take i).map AV.str) ++ [.str s]) ++ (l.drop i).map AV.str) = (l.take i ++ [s] ++ l.drop i).map AV.str := by simp
    have hn : (0 + i + 1 + (l.length - i)) = (l.take i ++ [s] ++ l.drop i).length := by simp; omega
    rw [hL, hn] at d1
    have k3 : ∀ k, k < h.length → h3[k]? = h[k]? := fun k hk => (d3 k (by omega) fun h5 => by have := b3 k h5; omega).trans (k2 k hk)
    have hl3 : h.length ≤ h3.length := by omega
    have hfin : ∃ (l' : List Str) (B' : List Nat), S1 h3 1 v3 l'.length (l'.map .str) B' ∧ (∀ k ∈ B', k ∈ B ∨ h.length ≤ k) ∧ l'.length ≤ l.length + 1 :=
      ⟨_, B3, d1, fun k hk => by
        rcases d4 k hk with h5 | h5
        · exact .inr (b3 k h5)
        · exact .inr (by omega), by simp; omega⟩
    (try (simp (disch := first | omega | (simp <;> omega) | fail) only [push_cast, ↓reduceIte, Nat.reduceEqDiff, Nat.reduceAdd, Nat.reduceMul, Nat.reduceSub, Nat.reduceLT, Int.reduceToNat]))
    all_goals (try exact ⟨hl3, k3, hfin⟩)
    all_goals (try exact ⟨k3, hfin⟩)
  have hlv : lenA v = some (.int .i64 l.length) := by
    rcases hS.2 with ⟨rfl, h0, _⟩ | ⟨b, rfl, _, _⟩
    · rw [h0]; rfl
    · rfl
  (try (simp (disch := first | omega | (simp <;> omega) | fail) only [push_cast, ↓reduceIte, Nat.reduceEqDiff, Nat.reduceAdd, Nat.reduceMul, Nat.reduceSub, Nat.reduceLT, Int.reduceToNat]))
  refine T_for l.length (fun i e h' => Pins e [(0, v), (1, .str s), (5, .int .i64 i)] ∧ h' = h) ?_ ?_
  · (try (simp (disch := first | omega | (simp <;> omega) | fail) only [push_cast, ↓reduceIte, Nat.reduceEqDiff, Nat.reduceAdd, Nat.reduceMul, Nat.reduceSub, Nat.reduceLT, Int.reduceToNat]))
    all_goals (try simp)
  rintro i e h' hi ⟨hp, rfl⟩
  refine T_pins hp fun e => ?_
  have hself : h'.length ≤ h'.length ∧ (∀ k, k < h'.length → h'[k]? = h'[k]?) ∧ ∃ (l' : List Str) (B' : List Nat), S1 h' 1 v l'.length (l'.map .str) B' ∧ (∀ k ∈ B', k ∈ B ∨ h'.length ≤ k) ∧ l'.length ≤ l.length + 1 := ⟨Nat.le_refl _, fun _ _ => rfl, l, B, hS, fun k hk => .inl hk, by omega⟩
  by_cases hil : i < l.length
  · rcases hS.2 with ⟨_, h0, _⟩ | ⟨b, hv, hB, hcb⟩
    · omega
    have hia : iaddrA 1 v (.int .i64 i) = some (.adr b i) := by
      rw [hv, iaddrA_sl (by omega) (by omega)]
      simp
    have hget : (l.map AV.str)[i]? = some (.str (l.getD i [])) := by simp [hil]
    (try (simp (disch := first | omega | (simp <;> omega) | fail) only [push_cast, ↓reduceIte, Nat.reduceEqDiff, Nat.reduceAdd, Nat.reduceMul, Nat.reduceSub, Nat.reduceLT, Int.reduceToNat, hlv, hia, hcb, hget]))
    first | refine goC_split (fun hc => ?_) (fun hc => ?_) | refine cnd_split (fun hc => ?_) (fun hc => ?_)
    · (try (simp only [decide_eq_true_eq, decide_eq_false_iff_not, Bool.not_eq_true', Bool.not_eq_false', Bool.and_eq_true, Bool.or_eq_true, Int.not_lt, Int.not_le] at hc)); (try (simp (disch := first | omega | (simp <;> omega) | fail) only [push_cast, ↓reduceIte, Nat.reduceEqDiff, Nat.reduceAdd, Nat.reduceMul, Nat.reduceSub, Nat.reduceLT, Int.reduceToNat]))
      (try (simp (disch := first | omega | (simp <;> omega) | fail) only [push_cast, ↓reduceIte, Nat.reduceEqDiff, Nat.reduceAdd, Nat.reduceMul, Nat.reduceSub, Nat.reduceLT, Int.reduceToNat]))
    · (try (simp only [decide_eq_true_eq, decide_eq_false_iff_not, Bool.not_eq_true', Bool.not_eq_false', Bool.and_eq_true, Bool.or_eq_true, Int.not_lt, Int.not_le] at hc)); (try (simp (disch := first | omega | (simp <;> omega) | fail) only [push_cast, ↓reduceIte, Nat.reduceEqDiff, Nat.reduceAdd, Nat.reduceMul, Nat.reduceSub, Nat.reduceLT, Int.reduceToNat]))
      (try (simp (disch := first | omega | (simp <;> omega) | fail) only [push_cast, ↓reduceIte, Nat.reduceEqDiff, Nat.reduceAdd, Nat.reduceMul, Nat.reduceSub, Nat.reduceLT, Int.reduceToNat, hlv, hia, hcb, hget]))
      first | refine goC_split (fun hd => ?_) (fun hd => ?_) | refine cnd_split (fun hd => ?_) (fun hd => ?_)
      · (try (simp only [decide_eq_true_eq, decide_eq_false_iff_not, Bool.not_eq_true', Bool.not_eq_false', Bool.and_eq_true, Bool.or_eq_true, Int.not_lt, Int.not_le] at hd)); (try (simp (disch := first | omega | (simp <;> omega) | fail) only [push_cast, ↓reduceIte, Nat.reduceEqDiff, Nat.reduceAdd, Nat.reduceMul, Nat.reduceSub, Nat.reduceLT, Int.reduceToNat]))
        (try (simp (disch := first | omega | (simp <;> omega) | fail) only [push_cast, ↓reduceIte, Nat.reduceEqDiff, Nat.reduceAdd, Nat.reduceMul, Nat.reduceSub, Nat.reduceLT, Int.reduceToNat]))
        all_goals (try exact hself)
        all_goals (try exact ⟨fun _ _ => trivial, hself.2.2⟩)
      · (try (simp only [decide_eq_true_eq, decide_eq_false_iff_not, Bool.not_eq_true', Bool.not_eq_false', Bool.and_eq_true, Bool.or_eq_true, Int.not_lt, Int.not_le] at hd)); (try (simp (disch := first | omega | (simp <;> omega) | fail) only [push_cast, ↓reduceIte, Nat.reduceEqDiff, Nat.reduceAdd, Nat.reduceMul, Nat.reduceSub, Nat.reduceLT, Int.reduceToNat]))
        (try (simp (disch := first | omega | (simp <;> omega) | fail) only [push_cast, ↓reduceIte, Nat.reduceEqDiff, Nat.reduceAdd, Nat.reduceMul, Nat.reduceSub, Nat.reduceLT, Int.reduceToNat]))
        all_goals (try exact tail i _ hi ⟨rfl, rfl, rfl, trivial⟩)
  · have hnl : ¬ (i : Int) < (l.length : Int) := by omega
    (try (simp (disch := first | omega | (simp <;> omega) | fail) only [push_cast, ↓reduceIte, Nat.reduceEqDiff, Nat.reduceAdd, Nat.reduceMul, Nat.reduceSub, Nat.reduceLT, Int.reduceToNat, hlv, hnl]))
    all_goals (try exact tail i _ hi ⟨rfl, rfl, rfl, trivial⟩)

theorem GrD.next {h g g2 : H} {b K : Nat} {c : Option (List UInt8)} {v x : AV} {l l' : List Str} {B B' : List Nat} (hg : CurF h g b c K) (hb : b < h.length) (hB : ∀ k ∈ B, h.length ≤ k) (hl : g.length ≤ g2.length) (hk : ∀ k, k < g.length → g2[k]? = g[k]?) (hs : S1 g2 1 x l'.length (l'.map .str) B') (hB2 : ∀ k ∈ B', k ∈ B ∨ g.length ≤ k) : GrD AV.str h g2 b c K x l' := by
  have h1 := hg.1
  refine ⟨⟨by omega, fun k hk1 hn => (hk k (by omega)).trans (hg.2.1 k hk1 hn), hg.2.2.frame (hk b (by omega))⟩, hb, B', hs, fun k hk1 => ?_⟩
  rcases hB2 k hk1 with h5 | h5
  · exact hB k h5
  · omega
theorem S1.vwS0 {h : H} {n0 n : Nat} {v : AV} {l : List Str} {B : List Nat} (hs : S1 h 1 v n (l.map .str) B) (hb : ∀ b ∈ B, n0 ≤ b) : ∃ o, Vw h n0 v (eS o) ∧ lS o = l := by
  have hn : n = l.length := by have := hs.1; simp at this; omega
  subst hn
  rcases hs.2 with ⟨rfl, h0, rfl⟩ | ⟨b, rfl, rfl, hc⟩
  · exact ⟨none, .free free_nils, (List.eq_nil_of_length_eq_zero h0).symm⟩
  · exact ⟨some l, vw_all (hb b (by simp)) hc (by simp) (one_map fun _ => rfl) (free_map_ fun _ => free_str), rfl⟩

theorem c_spec_l1Cur_keys (b : Nat) (c : Option (List UInt8)) (K : Nat) (h : H) (most : Nat) (hcu : CurI h b c K) (hK : K ≤ 10000000) (h1m : 1 ≤ most) (hm : most ≤ 40) :
    Call Tryz.prog 134 [.adr b 0, .int .i64 most] h (fun b' => b' = b) (fun x g => ∃ l : List Str, GrD AV.str h g b c (K + 300) x l ∧ l.length ≤ most) := by
  refine enter (by kernel_rfl) e134 (by kernel_rfl) rfl fun hok => ?_
  simp only [r134, initEnv_2]
  have hbl := hcu.lt
  (try (simp (disch := first | omega | (simp <;> omega) | fail) only [push_cast, ↓reduceIte, Nat.reduceEqDiff, Nat.reduceAdd, Nat.reduceMul, Nat.reduceSub, Nat.reduceLT, Int.reduceToNat]))
  refine (c_spec_l1Cur_pick b c K h ((most : Int) + 1) hcu (by omega) (by omega) (by omega)).mono (fun x h1 hx => ?_) (fun b' _ hb' => Or.inl hb')
  obtain ⟨⟨q, rfl, q0, q1⟩, hs⟩ := hx
  obtain ⟨mm, rfl⟩ : ∃ mm : Nat, q = (mm : Int) := ⟨q.toNat, by omega⟩
  have hG1 : GrD AV.str h h1 b c (K + 1) .nils [] := (GrD.start hcu).step hs.f
  (try (simp (disch := first | omega | (simp <;> omega) | fail) only [push_cast, ↓reduceIte, Nat.reduceEqDiff, Nat.reduceAdd, Nat.reduceMul, Nat.reduceSub, Nat.reduceLT, Int.reduceToNat]))
  refine T_for mm (fun i e g => ∃ v l, Pins e [(0, .adr b 0), (5, v), (6, .int .i64 ((mm : Int) - i))] ∧ GrD AV.str h g b c (K + 1 + 6 * i) v l ∧ l.length ≤ i) ?_ ?_
  · refine ⟨.nils, [], ?_, hG1, by simp⟩
    (try (simp (disch := first | omega | (simp <;> omega) | fail) only [push_cast, ↓reduceIte, Nat.reduceEqDiff, Nat.reduceAdd, Nat.reduceMul, Nat.reduceSub, Nat.reduceLT, Int.reduceToNat]))
    all_goals (try simp)
  rintro i e g hi ⟨v, l, hp, hG, hll⟩
  refine T_pins hp fun e => ?_
  (try (simp (disch := first | omega | (simp <;> omega) | fail) only [push_cast, ↓reduceIte, Nat.reduceEqDiff, Nat.reduceAdd, Nat.reduceMul, Nat.reduceSub, Nat.reduceLT, Int.reduceToNat]))
  first | refine goC_split (fun hc => ?_) (fun hc => ?_) | refine cnd_split (fun hc => ?_) (fun hc => ?_)
  · (try (simp only [decide_eq_true_eq, decide_eq_false_iff_not, Bool.not_eq_true', Bool.not_eq_false', Bool.and_eq_true, Bool.or_eq_true, Int.not_lt, Int.not_le] at hc)); (try (simp (disch := first | omega | (simp <;> omega) | fail) only [push_cast, ↓reduceIte, Nat.reduceEqDiff, Nat.reduceAdd, Nat.reduceMul, Nat.reduceSub, Nat.reduceLT, Int.reduceToNat]))
    refine (c_spec_l1Cur_key b c _ g hG.1.2.2 (by omega)).mono (fun x g2 hx => ?_) (fun b' _ hb' => Or.inl hb')
    obtain ⟨⟨s, rfl, hsl⟩, hF⟩ := hx
    have hG2 := hG.step hF
    obtain ⟨f1, f2, B, f3, f4⟩ := hG2
    (try (simp (disch := first | omega | (simp <;> omega) | fail) only [push_cast, ↓reduceIte, Nat.reduceEqDiff, Nat.reduceAdd, Nat.reduceMul, Nat.reduceSub, Nat.reduceLT, Int.reduceToNat]))
    refine (c_spec_l1PutS v l B s g2 f3 (by omega)).mono (fun x g3 hx => ?_) (fun _ _ h => h.elim)
    obtain ⟨y1, y2, l', B', y3, y4, y5⟩ := hx
    have hG3 := GrD.next (v := v) (l := l) f1 f2 f4 y1 y2 y3 y4
    (try (simp (disch := first | omega | (simp <;> omega) | fail) only [push_cast, ↓reduceIte, Nat.reduceEqDiff, Nat.reduceAdd, Nat.reduceMul, Nat.reduceSub, Nat.reduceLT, Int.reduceToNat]))
    all_goals (try exact ⟨_, _, rfl, hG3, by omega⟩)
    all_goals (try exact ⟨_, _, ⟨rfl, by omega⟩, hG3, by omega⟩)
    all_goals (try exact ⟨_, hG3, by omega⟩)
    all_goals (try exact ⟨by omega, _, hG3, by omega⟩)
  · (try (simp only [decide_eq_true_eq, decide_eq_false_iff_not, Bool.not_eq_true', Bool.not_eq_false', Bool.and_eq_true, Bool.or_eq_true, Int.not_lt, Int.not_le] at hc)); (try (simp (disch := first | omega | (simp <;> omega) | fail) only [push_cast, ↓reduceIte, Nat.reduceEqDiff, Nat.reduceAdd, Nat.reduceMul, Nat.reduceSub, Nat.reduceLT, Int.reduceToNat]))
    (try (simp (disch := first | omega | (simp <;> omega) | fail) only [push_cast, ↓reduceIte, Nat.reduceEqDiff, Nat.reduceAdd, Nat.reduceMul, Nat.reduceSub, Nat.reduceLT, Int.reduceToNat]))
    all_goals (try exact ⟨_, hG.mono (by omega), by omega⟩)

theorem c_spec_l1Cur_many (b : Nat) (c : Option (List UInt8)) (K : Nat) (h : H) (n : Nat) (hcu : CurI h b c K) (hn : n ≤ 50) :
    Call Tryz.prog 135 [.adr b 0, .int .i64 n] h (fun b' => b' = b) (fun x g => ∃ l : List Str, GrD AV.str h g b c K x l ∧ l.length ≤ n) := by
  refine enter (by kernel_rfl) e135 (by kernel_rfl) rfl fun hok => ?_
  simp only [r135, initEnv_2]
  have hbl := hcu.lt
  (try (simp (disch := first | omega | (simp <;> omega) | fail) only [push_cast, ↓reduceIte, Nat.reduceEqDiff, Nat.reduceAdd, Nat.reduceMul, Nat.reduceSub, Nat.reduceLT, Int.reduceToNat]))
  refine T_for n (fun i e g => ∃ v l, Pins e [(1, .int .i64 n), (5, v), (6, .int .i64 i)] ∧ GrD AV.str h g b c K v l ∧ l.length ≤ i) ?_ ?_
  · refine ⟨.nils, [], ?_, GrD.start hcu, by simp⟩
    (try (simp (disch := first | omega | (simp <;> omega) | fail) only [push_cast, ↓reduceIte, Nat.reduceEqDiff, Nat.reduceAdd, Nat.reduceMul, Nat.reduceSub, Nat.reduceLT, Int.reduceToNat]))
    all_goals (try simp)
  rintro i e g hi ⟨v, l, hp, hG, hll⟩
  refine T_pins hp fun e => ?_
  (try (simp (disch := first | omega | (simp <;> omega) | fail) only [push_cast, ↓reduceIte, Nat.reduceEqDiff, Nat.reduceAdd, Nat.reduceMul, Nat.reduceSub, Nat.reduceLT, Int.reduceToNat]))
  first | refine goC_split (fun hc => ?_) (fun hc => ?_) | refine cnd_split (fun hc => ?_) (fun hc => ?_)
  · (try (simp only [decide_eq_true_eq, decide_eq_false_iff_not, Bool.not_eq_true', Bool.not_eq_false', Bool.and_eq_true, Bool.or_eq_true, Int.not_lt, Int.not_le] at hc)); (try (simp (disch := first | omega | (simp <;> omega) | fail) only [push_cast, ↓reduceIte, Nat.reduceEqDiff, Nat.reduceAdd, Nat.reduceMul, Nat.reduceSub, Nat.reduceLT, Int.reduceToNat]))
    (try (simp (disch := first | omega | (simp <;> omega) | fail) only [push_cast, ↓reduceIte, Nat.reduceEqDiff, Nat.reduceAdd, Nat.reduceMul, Nat.reduceSub, Nat.reduceLT, Int.reduceToNat]))
    refine ⟨rfl, ?_⟩
    have e1 : (((UInt8.ofNat (97 + i / 10)).toNat : Nat) : Int) = 97 + (i : Int) / 10 := by simp; omega
    have e2 : (((UInt8.ofNat (48 + i % 10)).toNat : Nat) : Int) = 48 + (i : Int) % 10 := by simp; omega
    have hs2 : S1 (g ++ [some (.cells (((List.replicate 2 (AV.int .u8 0)).set 0 (.int .u8 (97 + (i : Int) / 10))).set 1 (.int .u8 (48 + (i : Int) % 10))))]) 1 (.sl g.length 0 1 2 2) 2 (u8s [UInt8.ofNat (97 + i / 10), UInt8.ofNat (48 + i % 10)]) [g.length] :=
      ⟨rfl, .inr ⟨g.length, rfl, rfl, by
        rw [cells_h0]
        simp only [u8s, List.map_cons, List.map_nil, e1, e2]
        rfl⟩⟩
    have hcb := cbs_S1 hs2
    obtain ⟨f1, f2, B, f3, f4⟩ := hG.more (l2 := [some (.cells (((List.replicate 2 (AV.int .u8 0)).set 0 (.int .u8 (97 + (i : Int) / 10))).set 1 (.int .u8 (48 + (i : Int) % 10))))])
    (try (simp (disch := first | omega | (simp <;> omega) | fail) only [push_cast, ↓reduceIte, Nat.reduceEqDiff, Nat.reduceAdd, Nat.reduceMul, Nat.reduceSub, Nat.reduceLT, Int.reduceToNat, hcb]))
    refine (c_spec_l1PutS v l B [UInt8.ofNat (97 + i / 10), UInt8.ofNat (48 + i % 10)] _ f3 (by omega)).mono (fun x g3 hx => ?_) (fun _ _ h => h.elim)
    obtain ⟨y1, y2, l', B', y3, y4, y5⟩ := hx
    have hG3 := GrD.next (v := v) (l := l) f1 f2 f4 y1 y2 y3 y4
    (try (simp (disch := first | omega | (simp <;> omega) | fail) only [push_cast, ↓reduceIte, Nat.reduceEqDiff, Nat.reduceAdd, Nat.reduceMul, Nat.reduceSub, Nat.reduceLT, Int.reduceToNat]))
    all_goals (try exact ⟨_, _, rfl, hG3, by omega⟩)
    all_goals (try exact ⟨_, hG3, by omega⟩)
  · (try (simp only [decide_eq_true_eq, decide_eq_false_iff_not, Bool.not_eq_true', Bool.not_eq_false', Bool.and_eq_true, Bool.or_eq_true, Int.not_lt, Int.not_le] at hc)); (try (simp (disch := first | omega | (simp <;> omega) | fail) only [push_cast, ↓reduceIte, Nat.reduceEqDiff, Nat.reduceAdd, Nat.reduceMul, Nat.reduceSub, Nat.reduceLT, Int.reduceToNat]))
    (try (simp (disch := first | omega | (simp <;> omega) | fail) only [push_cast, ↓reduceIte, Nat.reduceEqDiff, Nat.reduceAdd, Nat.reduceMul, Nat.reduceSub, Nat.reduceLT, Int.reduceToNat]))
    all_goals (try exact ⟨_, hG, by omega⟩)

theorem c_spec_l1Cur_anyKeys (b : Nat) (c : Option (List UInt8)) (K : Nat) (h : H) (most : Nat) (hcu : CurI h b c K) (hK : K ≤ 1000000) (h1m : 1 ≤ most) (hm : most ≤ 40) :
    Call Tryz.prog 76 [.adr b 0, .int .i64 most] h (fun b' => b' = b) (fun x g => (∃ o : Option (List Str), x = eS o ∧ (lS o).length ≤ 42) ∧ CurF h g b c (K + 400)) := by
  refine Call.cur hcu.lt ?_
  refine enter (by kernel_rfl) e76 (by kernel_rfl) rfl fun hok => ?_
  simp only [r76, initEnv_2]
  have hbl := hcu.lt
  (try (simp (disch := first | omega | (simp <;> omega) | fail) only [push_cast, ↓reduceIte, Nat.reduceEqDiff, Nat.reduceAdd, Nat.reduceMul, Nat.reduceSub, Nat.reduceLT, Int.reduceToNat]))
  refine (c_spec_l1Cur_keys b c K h most hcu (by omega) h1m hm).mono (fun x h1 hx => ?_) (fun b' _ hb' => Or.inl hb')
  obtain ⟨l, hG, hll⟩ := hx
  generalize x = v at hG
  have hfin : ∀ (g : H) (K' : Nat) (v : AV) (l : List Str), GrD AV.str h g b c K' v l → K' ≤ K + 400 → l.length ≤ 42 → ∃ t, Vw g h.length v t ∧ (∃ o : Option (List Str), t = eS o ∧ (lS o).length ≤ 42) ∧ CurF h g b c (K + 400) := by
    intro g K' v l hG hK' hl
    obtain ⟨f1, f2, B, f3, f4⟩ := hG
    obtain ⟨o, ho, hol⟩ := f3.vwS0 f4
    exact ⟨_, ho, ⟨o, rfl, by rw [hol]; exact hl⟩, f1.mono hK'⟩
  (try (simp (disch := first | omega | (simp <;> omega) | fail) only [push_cast, ↓reduceIte, Nat.reduceEqDiff, Nat.reduceAdd, Nat.reduceMul, Nat.reduceSub, Nat.reduceLT, Int.reduceToNat]))
  refine (c_spec_l1Cur_pick b c _ h1 14 hG.1.2.2 (by omega) (by omega) (by omega)).mono (fun x h2 hx => ?_) (fun b' _ hb' => Or.inl hb')
  obtain ⟨⟨k, rfl, k0, k1⟩, hs⟩ := hx
  have hG2 := hG.step hs.f
  by_cases z0 : k = 0
  · (try (simp (disch := first | omega | (simp <;> omega) | fail) only [push_cast, ↓reduceIte, Nat.reduceEqDiff, Nat.reduceAdd, Nat.reduceMul, Nat.reduceSub, Nat.reduceLT, Int.reduceToNat, z0]))
    refine (c_spec_l1Cur_text b c _ h2 hG2.1.2.2 (by omega)).mono (fun x h3 hx => ?_) (fun b' _ hb' => Or.inl hb')
    obtain ⟨⟨s, rfl, hsl⟩, hF⟩ := hx
    have hG3 := hG2.step hF
    (try (simp (disch := first | omega | (simp <;> omega) | fail) only [push_cast, ↓reduceIte, Nat.reduceEqDiff, Nat.reduceAdd, Nat.reduceMul, Nat.reduceSub, Nat.reduceLT, Int.reduceToNat]))
    refine hG3.app (a := s) (by_ := 16) rfl (fun y hy => Or.inr hy) (by omega) fun v2 g3 hG4 => ?_
    (try (simp (disch := first | omega | (simp <;> omega) | fail) only [push_cast, ↓reduceIte, Nat.reduceEqDiff, Nat.reduceAdd, Nat.reduceMul, Nat.reduceSub, Nat.reduceLT, Int.reduceToNat]))
    all_goals (try exact hfin _ _ _ _ hG4 (by omega) (by simp; omega))
  by_cases z1 : k = 1
  · have hlv := hG2.lenA
    (try (simp (disch := first | omega | (simp <;> omega) | fail) only [push_cast, ↓reduceIte, Nat.reduceEqDiff, Nat.reduceAdd, Nat.reduceMul, Nat.reduceSub, Nat.reduceLT, Int.reduceToNat, z1, hlv]))
    first | refine goC_split (fun hc => ?_) (fun hc => ?_) | refine cnd_split (fun hc => ?_) (fun hc => ?_)
    · (try (simp only [decide_eq_true_eq, decide_eq_false_iff_not, Bool.not_eq_true', Bool.not_eq_false', Bool.and_eq_true, Bool.or_eq_true, Int.not_lt, Int.not_le] at hc)); (try (simp (disch := first | omega | (simp <;> omega) | fail) only [push_cast, ↓reduceIte, Nat.reduceEqDiff, Nat.reduceAdd, Nat.reduceMul, Nat.reduceSub, Nat.reduceLT, Int.reduceToNat]))
      (try (simp (disch := first | omega | (simp <;> omega) | fail) only [push_cast, ↓reduceIte, Nat.reduceEqDiff, Nat.reduceAdd, Nat.reduceMul, Nat.reduceSub, Nat.reduceLT, Int.reduceToNat, hlv]))
      refine (c_spec_l1Cur_pickAny b c _ h2 l.length hG2.1.2.2 (by omega) (by omega)).mono (fun x h3 hx => ?_) (fun b' _ hb' => Or.inl hb')
      obtain ⟨⟨q, rfl, q0, q1⟩, hs3⟩ := hx
      obtain ⟨q, rfl⟩ : ∃ q' : Nat, q = (q' : Int) := ⟨q.toNat, by omega⟩
      have hG3 := hG2.step hs3.f
      obtain ⟨f1, f2, B, f3, f4⟩ := id hG3
      rcases f3.2 with ⟨_, h0, _⟩ | ⟨bv, hv, _, hcb⟩
      · omega
      have hia : iaddrA 1 v (.int .i64 q) = some (.adr bv q) := by
        rw [hv, iaddrA_sl (by omega) (by omega)]
        simp
      have hget : (l.map AV.str)[q]? = some (.str (l.getD q [])) := by
        have : q < l.length := by omega
        simp [this]
      (try (simp (disch := first | omega | (simp <;> omega) | fail) only [push_cast, ↓reduceIte, Nat.reduceEqDiff, Nat.reduceAdd, Nat.reduceMul, Nat.reduceSub, Nat.reduceLT, Int.reduceToNat, hia, hcb, hget]))
      refine hG3.app (a := l.getD q []) (by_ := 16) rfl (fun y hy => Or.inr hy) (by omega) fun v2 g3 hG4 => ?_
      (try (simp (disch := first | omega | (simp <;> omega) | fail) only [push_cast, ↓reduceIte, Nat.reduceEqDiff, Nat.reduceAdd, Nat.reduceMul, Nat.reduceSub, Nat.reduceLT, Int.reduceToNat]))
      all_goals (try exact hfin _ _ _ _ hG4 (by omega) (by simp; omega))
    · (try (simp only [decide_eq_true_eq, decide_eq_false_iff_not, Bool.not_eq_true', Bool.not_eq_false', Bool.and_eq_true, Bool.or_eq_true, Int.not_lt, Int.not_le] at hc)); (try (simp (disch := first | omega | (simp <;> omega) | fail) only [push_cast, ↓reduceIte, Nat.reduceEqDiff, Nat.reduceAdd, Nat.reduceMul, Nat.reduceSub, Nat.reduceLT, Int.reduceToNat]))
      (try (simp (disch := first | omega | (simp <;> omega) | fail) only [push_cast, ↓reduceIte, Nat.reduceEqDiff, Nat.reduceAdd, Nat.reduceMul, Nat.reduceSub, Nat.reduceLT, Int.reduceToNat]))
      all_goals (try exact hfin _ _ _ _ hG2 (by omega) (by omega))
  by_cases z2 : k = 2
  · (try (simp (disch := first | omega | (simp <;> omega) | fail) only [push_cast, ↓reduceIte, Nat.reduceEqDiff, Nat.reduceAdd, Nat.reduceMul, Nat.reduceSub, Nat.reduceLT, Int.reduceToNat, z2]))
    refine (c_spec_l1Cur_pick b c _ h2 2 hG2.1.2.2 (by omega) (by omega) (by omega)).mono (fun x h3 hx => ?_) (fun b' _ hb' => Or.inl hb')
    obtain ⟨⟨q, rfl, q0, q1⟩, hs3⟩ := hx
    obtain ⟨nn, hnn⟩ : ∃ nn : Nat, 40 + q = (nn : Int) := ⟨(40 + q).toNat, by omega⟩
    have hG3 := hG2.step hs3.f
    (try (simp (disch := first | omega | (simp <;> omega) | fail) only [push_cast, ↓reduceIte, Nat.reduceEqDiff, Nat.reduceAdd, Nat.reduceMul, Nat.reduceSub, Nat.reduceLT, Int.reduceToNat, hnn]))
    refine (c_spec_l1Cur_many b c _ h3 nn hG3.1.2.2 (by omega)).mono (fun x h4 hx => ?_) (fun b' _ hb' => Or.inl hb')
    obtain ⟨l4, hG4, hl4⟩ := hx
    have hG5 : GrD AV.str h h4 b c (K + 300 + 1 + 1) x l4 := by
      obtain ⟨f1, f2, B, f3, f4⟩ := hG4
      have := hG3.1.1
      exact ⟨hG3.1.trans f1, hG3.2.1, B, f3, fun k hk => by have := f4 k hk; omega⟩
    (try (simp (disch := first | omega | (simp <;> omega) | fail) only [push_cast, ↓reduceIte, Nat.reduceEqDiff, Nat.reduceAdd, Nat.reduceMul, Nat.reduceSub, Nat.reduceLT, Int.reduceToNat]))
    all_goals (try exact hfin _ _ _ _ hG5 (by omega) (by omega))
  (try (simp (disch := first | omega | (simp <;> omega) | fail) only [push_cast, ↓reduceIte, Nat.reduceEqDiff, Nat.reduceAdd, Nat.reduceMul, Nat.reduceSub, Nat.reduceLT, Int.reduceToNat, z0, z1, z2]))
  all_goals (try exact hfin _ _ _ _ hG2 (by omega) (by omega))

end Go.Proofs.YtjfgmimgmapeeaaGreat.M
