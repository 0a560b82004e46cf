/-
  What the functions return.
-/
import Derived.Test.YtdkgoaiodjokpaaGreatFe
import Derived.Test.YtdkgoaiodjokpaaGreatCd
namespace Go.Proofs.YtdkgoaiodjokpaaGreat.M
open Go Go.RowKit
set_option linter.unusedVariables false
set_option linter.unusedSimpArgs false
set_option maxRecDepth 4000

theorem c_laws_big (a b : Option (List UInt8)) (ha : (lU a).length ≤ 9223372036854775807) : Fn Tryz.prog 5 [eU a, eU b] (· = .bool (decide (1048576 < ((lU a).length : Int)) || decide (1048576 - ((lU a).length : Int) < ((lU b).length : Int)))) := by
  refine Fn.of free_bool fun h => ?_
  refine enter (by kernel_rfl) e5 (by kernel_rfl) rfl fun hok => ?_
  simp only [r5, initEnv_2]
  by_cases h1 : 1048576 < ((lU a).length : Int)
  · (try (simp (disch := first | omega | (simp <;> omega) | fail) only [push_cast, ↓reduceIte, Nat.reduceEqDiff, Nat.reduceAdd, Nat.reduceMul, Nat.reduceSub, Nat.reduceLT, Int.reduceToNat, h1]))
    all_goals (try simp [h1])
  · (try (simp (disch := first | omega | (simp <;> omega) | fail) only [push_cast, ↓reduceIte, Nat.reduceEqDiff, Nat.reduceAdd, Nat.reduceMul, Nat.reduceSub, Nat.reduceLT, Int.reduceToNat, h1]))
    (first | refine goC_split (fun hc => ?_) (fun hc => ?_) | refine cnd_split (fun hc => ?_) (fun hc => ?_)) <;> ((try (simp (disch := first | omega | (simp <;> omega) | fail) only [push_cast, ↓reduceIte, Nat.reduceEqDiff, Nat.reduceAdd, Nat.reduceMul, Nat.reduceSub, Nat.reduceLT, Int.reduceToNat]))) <;> (try rw [hc])

theorem c_impl_BuildTrie_o (o : Option (List Str)) (hK : okKeys (lS o) = true) : FnO Tryz.prog 8 [eS o] (· = .tup [eTr (tK (lS o)), .bool true]) := by
  intro h
  refine enter (by kernel_rfl) e8 (by kernel_rfl) rfl fun hok => ?_
  simp only [r8, initEnv_1]
  have ht := c_impl_trie_o o hK
  have hAK := c_impl_AreKeys o
  rw [hK] at hAK
  (try (simp (disch := first | omega | (simp <;> omega) | fail) only [push_cast, ↓reduceIte, Nat.reduceEqDiff, Nat.reduceAdd, Nat.reduceMul, Nat.reduceSub, Nat.reduceLT, Int.reduceToNat]))
  refine hAK.call ?_
  (try (simp (disch := first | omega | (simp <;> omega) | fail) only [push_cast, ↓reduceIte, Nat.reduceEqDiff, Nat.reduceAdd, Nat.reduceMul, Nat.reduceSub, Nat.reduceLT, Int.reduceToNat]))
  refine ht.go fun x t g hR hx how => ?_
  subst hR
  generalize tK (lS o) = T at *
  obtain ⟨x2, x4, F2, F4, rfl, f2, f4, f5, f6, _⟩ := ow_trE how
  obtain ⟨p1, p2⟩ := ow_eI f2
  obtain ⟨p3, p4⟩ := ow_eI f4
  have hl := hx.len
  simp only [List.length_append, List.length_cons, List.length_nil] at hl
  have hb := hx.cells (b := h.length) (cs := [.int .i64 0, .nils, .int .i64 0, .nils, .str []]) (by rw [cells_h0]; rfl)
  have hpm : (h.length ≤ h.length) = True := by simp
  have hw := fun cs => cells_wr2 (cells_lt hb) (cs := cs)
  have hfin : ∀ cs, ∃ t', Ow (wr g h.length cs) [.tup [.agg [.int .i64 T.sh.size, x2, .int .i64 T.en.size, x4, .str T.lab], .bool true]] [t'] (fun c => h.length ≤ c) ∧ t' = .tup [eTr T, .bool true] := fun cs => by
    have hwr : ∀ c, c ≠ h.length → (wr g h.length cs)[c]? = g[c]? := fun c hc => by
      unfold wr
      rw [List.getElem?_set_ne (Ne.symm hc)]
    have h2 : ∀ c, F2 c → h.length + 1 ≤ c := fun c hc => by have := (f5 c hc).1; simpa using this
    have h4 : ∀ c, F4 c → h.length + 1 ≤ c ∧ ¬ F2 c := fun c hc => ⟨by have := (f6 c hc).1.1; simpa using this, (f6 c hc).2⟩
    have hT := ow_tr (lab := T.lab) (a := T.sh.size) (c := T.en.size) (n0 := h.length) (f2.frame fun c hc => hwr c (by have := h2 c hc; omega)) (f4.frame fun c hc => hwr c (by have := (h4 c hc).1; omega)) (fun c hc => by have := h2 c hc; omega) (fun c hc => ⟨by have := (h4 c hc).1; omega, (h4 c hc).2⟩)
    exact ⟨_, (hT.cons (F' := fun _ => False) (.atom rfl .nil) (fun _ h => h) (fun _ h => h.elim)).tupOf, rfl⟩
  (try (simp (disch := first | omega | (simp <;> omega) | fail) only [push_cast, ↓reduceIte, Nat.reduceEqDiff, Nat.reduceAdd, Nat.reduceMul, Nat.reduceSub, Nat.reduceLT, Int.reduceToNat, p1, p2, p3, p4, hb, hpm, hw, reads, List.mem_cons, List.mem_append, List.not_mem_nil, nat_ff, or_self, or_false, false_or, not_false_eq_true]))
  all_goals (try exact hfin _)

def hk (seed part : Int) (s : Str) : Int := s.foldl (fun h c => (263 * h + (c.toNat : Int)) % 65521) ((31 * seed + 977 * part + 7) % 65521)
theorem hk_bd (seed part : Int) : ∀ s : Str, 0 ≤ hk seed part s ∧ hk seed part s < 65521 := by
  intro s
  have key : ∀ (s : Str) (h : Int), 0 ≤ h ∧ h < 65521 → 0 ≤ s.foldl (fun h c => (263 * h + (c.toNat : Int)) % 65521) h ∧ s.foldl (fun h c => (263 * h + (c.toNat : Int)) % 65521) h < 65521 := by
    intro s
    induction s with
    | nil => exact fun h hh => hh
    | cons c s ih =>
      intro h hh
      rw [List.foldl_cons]
      refine ih _ ?_
      show 0 ≤ (263 * h + (c.toNat : Int)) % 65521 ∧ (263 * h + (c.toNat : Int)) % 65521 < 65521
      omega
  exact key s _ ⟨by omega, by omega⟩
theorem hk_take {seed part : Int} {s : Str} {i : Nat} (hi : i < s.length) : hk seed part (s.take (i + 1)) = (263 * hk seed part (s.take i) + ((s.getD i 0).toNat : Int)) % 65521 := by
  unfold hk
  rw [List.take_add_one, List.foldl_append]
  simp [hi]
/-- The hash. -/
def hashV (seed part : Int) (s : Str) : Int := hk seed part s ^ 11 % 65521
theorem hashV_bd (seed part : Int) (s : Str) : 0 ≤ hashV seed part s ∧ hashV seed part s < 65521 := by
  unfold hashV
  exact ⟨by omega, by omega⟩
def placeV (seed part : Int) (s : Str) (n : Int) : Int := hashV seed part s * n / 65521
theorem pow_step (h : Int) (i : Nat) : h ^ i % 65521 * h % 65521 = h ^ (i + 1) % 65521 := by
  rw [Int.pow_succ, Int.mul_emod (h ^ i % 65521) h, Int.emod_emod_of_dvd _ (Int.dvd_refl _), ← Int.mul_emod]
theorem pow_join (h : Int) (i j : Nat) : (h ^ i % 65521) * (h ^ j % 65521) % 65521 = h ^ (i + j) % 65521 := by
  rw [← Int.mul_emod, Int.pow_add]

--eng lenA_ePS iaddr_ePS eP ld_P get_P0 get_P1 get_P2 cellsOf_ePS one_ePS cP
structure Pd where
  seed : Int
  seg : Int
  marks : Option (List Int)
  deriving Inhabited
def cP (p : Pd) : List AV := [.int .i64 p.seed, .int .i64 p.seg, eI p.marks]
theorem cP_len (p : Pd) : (cP p).length = 3 := rfl
def eP (p : Pd) : AV := .agg (cP p)
def ePS : Option (List Pd) → AV
  | none => .nils
  | some l => .ro 3 (l.flatMap cP) l.length
def lP : Option (List Pd) → List Pd
  | none => []
  | some l => l
theorem lenA_ePS {l : Option (List Pd)} : lenA (ePS l) = some (.int .i64 (lP l).length) := by cases l <;> rfl
theorem iaddr_ePS {l : Option (List Pd)} {k : IntKind} {n : Int} (h1 : 0 ≤ n) (h2 : n < (lP l).length) : iaddrA 3 (ePS l) (.int k n) = some (.rad ((lP l).flatMap cP) (n.toNat * 3)) := by
  cases l with
  | none => simp [lP] at h2; omega
  | some l => exact iaddrA_ro h1 h2
theorem ld_P {l : List Pd} {i : Nat} (hi : i < l.length) : ld true 3 (l.flatMap cP) (i * 3) = some (.agg (cP (l.getD i default))) := ld_row cP_len default hi
theorem get_P0 {l : List Pd} {i : Nat} (hi : i < l.length) : (l.flatMap cP)[i * 3]? = some (.int .i64 (l.getD i default).seed) := flatMap_get cP_len default (k := 0) hi (by omega)
theorem get_P1 {l : List Pd} {i : Nat} (hi : i < l.length) : (l.flatMap cP)[i * 3 + 1]? = some (.int .i64 (l.getD i default).seg) := flatMap_get cP_len default (k := 1) hi (by omega)
theorem get_P2 {l : List Pd} {i : Nat} (hi : i < l.length) : (l.flatMap cP)[i * 3 + 2]? = some (eI (l.getD i default).marks) := flatMap_get cP_len default (k := 2) hi (by omega)
theorem one_ePS {l : Option (List Pd)} : one (ePS l) = true := by cases l <;> rfl
theorem cellsOf_ePS {l : Option (List Pd)} : cellsOf (ePS l) = [ePS l] := by cases l <;> rfl
theorem free_cP {p : Pd} : ∀ c ∈ cP p, Free c := free_cons_ free_int (free_cons_ free_int (free_cons_ free_eI free_nil_))
theorem free_eP {p : Pd} : Free (eP p) := free_agg free_cP
theorem free_ePS {l : Option (List Pd)} : Free (ePS l) := by
  cases l with
  | none => exact free_nils
  | some l => exact free_ro (fun c hc => by obtain ⟨p, _, hp⟩ := List.mem_flatMap.1 hc; exact free_cP c hp)
theorem ok_ePS {l : Option (List Pd)} (h : OkV (ePS l)) : (lP l).length ≤ 9223372036854775807 := by
  cases l with
  | none => simp [lP]
  | some l => exact h.ro.1
def wPS (a : Option (List Pd)) : Nat := (lP a).length + ((lP a).map fun p => (lI p.marks).length).sum
/-- A copy of it. -/
def cpP (p : Pd) : Pd := ⟨p.seed, p.seg, some (lI p.marks)⟩
def cPc (p : Pd) : List AV := cP (cpP p)
theorem cPc_len (p : Pd) : (cPc p).length = 3 := rfl

attribute [push_cast] lenA_ePS iaddr_ePS eP ld_P get_P0 get_P1 get_P2 cellsOf_ePS one_ePS cP
def rank (l : List Int) (n : Nat) : Nat := (l.take n).countP (fun m => decide (m ≠ 3))
theorem rank_0 {l : List Int} : rank l 0 = 0 := by simp [rank]
theorem rank_le {l : List Int} {n : Nat} : rank l n ≤ n := by
  unfold rank
  have := List.countP_le_length (p := fun m : Int => decide (m ≠ 3)) (l := l.take n)
  have h2 : (l.take n).length ≤ n := by simp; omega
  omega
theorem rank_succ {l : List Int} {n : Nat} (hn : n < l.length) : rank l (n + 1) = rank l n + (if l.getD n 0 = 3 then 0 else 1) := by
  unfold rank
  rw [List.take_add_one, List.countP_append]
  congr 1
  by_cases h : l.getD n 0 = 3
  · have h' : l[n] = 3 := by simpa [hn] using h
    simp [hn, h']
  · have h' : l[n] ≠ 3 := by simpa [hn] using h
    simp [hn, h']
def okMarks (l : List Int) : Bool := l.all fun m => decide (0 ≤ m) && decide (m ≤ 3)
def okPd (p : Pd) : Bool := (decide (0 ≤ p.seed) && decide (p.seed ≤ 9999)) && ((decide (1 ≤ p.seg) && decide (p.seg ≤ 24)) && (decide (((lI p.marks).length : Int) = 3 * p.seg) && okMarks (lI p.marks)))

def sameP (p q : Pd) : Bool := decide (p.seed = q.seed) && (decide (p.seg = q.seg) && decide (lI p.marks = lI q.marks))
theorem sameP_cp (p : Pd) : sameP (cpP p) (cpP p) = true := by simp [sameP]
/-- The first so many are the same. -/
def sameFrom (l m : List Pd) : Nat → Bool
  | 0 => true
  | i + 1 => sameFrom l m i && sameP (l.getD i default) (m.getD i default)
theorem sameFrom_false {l m : List Pd} {i : Nat} : ∀ {j}, i ≤ j → sameFrom l m i = false → sameFrom l m j = false
  | 0, h, hf => by
    rw [show i = 0 by omega] at hf
    exact hf
  | j + 1, h, hf => by
    by_cases hi : i = j + 1
    · rw [← hi]
      exact hf
    · simp [sameFrom, sameFrom_false (show i ≤ j by omega) hf]
def samePS (l m : List Pd) : Bool := decide ((l.length : Int) = m.length) && sameFrom l m l.length
theorem samePS_cp (l : List Pd) : samePS (l.map cpP) (l.map cpP) = true := by
  have : ∀ n, sameFrom (l.map cpP) (l.map cpP) n = true := by
    intro n
    induction n with
    | zero => rfl
    | succ n ih => simp [sameFrom, ih, sameP]
  simp [samePS, this]

--eng eSh
structure Sh_ where
  seed : Int
  parts : Option (List Pd)
  offs : Option (List Int)
def eSh (s : Sh_) : AV := .agg [.int .i64 s.seed, ePS s.parts, eI s.offs]
def cpSh (s : Sh_) : Sh_ := ⟨s.seed, some ((lP s.parts).map cpP), some (lI s.offs)⟩
theorem free_eSh {s : Sh_} : Free (eSh s) := free_agg (free_cons_ free_int (free_cons_ free_ePS (free_cons_ free_eI free_nil_)))
def wSh (s : Sh_) : Nat := wPS s.parts + (lI s.offs).length

attribute [push_cast] eSh
def usedP (p : Pd) : Nat := rank (lI p.marks) (lI p.marks).length
def offAt (l : List Pd) (i : Nat) : Nat := ((l.take i).map usedP).sum
theorem offAt_0 {l : List Pd} : offAt l 0 = 0 := by simp [offAt]
theorem offAt_succ {l : List Pd} {i : Nat} (hi : i < l.length) : offAt l (i + 1) = offAt l i + usedP (l.getD i default) := by
  unfold offAt
  rw [List.take_add_one, List.map_append, List.sum_append]
  simp [hi]
theorem offAt_le {l : List Pd} {w : Nat} (hw : ∀ i, i < l.length → (lI (l.getD i default).marks).length ≤ w) : ∀ i, i ≤ l.length → offAt l i ≤ i * w
  | 0, _ => by simp [offAt_0]
  | i + 1, hi => by
    rw [offAt_succ (by omega), Nat.succ_mul]
    have h1 := offAt_le hw i (by omega)
    have h2 := hw i (by omega)
    have h3 : usedP (l.getD i default) ≤ _ := rank_le
    omega
theorem offAt_ok {l : List Pd} : ∀ i, i ≤ l.length → (l.take i).all okPd = true → offAt l i ≤ i * 72
  | 0, _, _ => by simp [offAt_0]
  | i + 1, hi, h => by
    rw [List.take_add_one, List.all_append, Bool.and_eq_true] at h
    have h0 : i < l.length := by omega
    have h1 := offAt_ok i (by omega) h.1
    have h2 : okPd (l.getD i default) = true := by
      have := h.2
      simp [h0] at this
      simpa [h0] using this
    simp only [okPd, Bool.and_eq_true, decide_eq_true_eq] at h2
    rw [offAt_succ h0]
    have h3 : usedP (l.getD i default) ≤ _ := rank_le
    omega
def offsL (l : List Pd) (i : Nat) : List Int := (List.range i).map fun j => (offAt l j : Int)
theorem offsL_len {l : List Pd} {i : Nat} : (offsL l i).length = i := by simp [offsL]
theorem offsL_succ {l : List Pd} {i : Nat} : offsL l (i + 1) = offsL l i ++ [(offAt l i : Int)] := by simp [offsL, List.range_succ]
def okSh (s : Sh_) : Bool := (decide (0 ≤ s.seed) && decide (s.seed ≤ 9999)) && ((decide (1 ≤ ((lP s.parts).length : Int)) && decide (((lP s.parts).length : Int) ≤ 8)) && ((lP s.parts).all okPd && decide (lI s.offs = offsL (lP s.parts) (lP s.parts).length)))
theorem okPd_len {p : Pd} (h : okPd p = true) : (lI p.marks).length ≤ 72 := by
  simp only [okPd, Bool.and_eq_true, decide_eq_true_eq] at h
  omega

theorem placeV_bd {seed part : Int} {s : Str} {n : Int} (hn : 0 < n) : 0 ≤ placeV seed part s n ∧ placeV seed part s n < n := by
  obtain ⟨h1, h2⟩ := hashV_bd seed part s
  unfold placeV
  have h3 : 0 ≤ hashV seed part s * n := Int.mul_nonneg h1 (by omega)
  have h4 : hashV seed part s * n < 65521 * n := Int.mul_lt_mul_of_pos_right h2 hn
  constructor
  · omega
  · omega
/-- The places of a key. -/
def tri (seed : Int) (key : Str) (seg : Int) (n : Nat) : List Int := (List.range n).map fun j : Nat => placeV seed (j : Int) key seg + (j : Int) * seg
theorem tri_succ {seed : Int} {key : Str} {seg : Int} {n : Nat} : tri seed key seg (n + 1) = tri seed key seg n ++ [placeV seed (n : Int) key seg + (n : Int) * seg] := by simp [tri, List.range_succ]
theorem tri_len {seed : Int} {key : Str} {seg : Int} {n : Nat} : (tri seed key seg n).length = n := by simp [tri]
theorem tri_get {seed : Int} {key : Str} {seg : Int} {n i : Nat} (hi : i < n) : (tri seed key seg n).getD i 0 = placeV seed (i : Int) key seg + (i : Int) * seg := by simp [tri, hi]
theorem tri_bd {seed : Int} {key : Str} {seg : Int} {i : Nat} (hs : 0 < seg) (hi : i < 3) : 0 ≤ (tri seed key seg 3).getD i 0 ∧ (tri seed key seg 3).getD i 0 < 3 * seg := by
  rw [tri_get hi]
  have := placeV_bd (seed := seed) (part := (i : Int)) (s := key) hs
  have h3 : i = 0 ∨ i = 1 ∨ i = 2 := by omega
  rcases h3 with rfl | rfl | rfl <;> omega
def sumAt (m : List Int) (l : List Int) : Int := (l.map fun p => m.getD p.toNat 0).sum
theorem sumAt_take {m l : List Int} {i : Nat} (hi : i < l.length) : sumAt m (l.take (i + 1)) = sumAt m (l.take i) + m.getD (l.getD i 0).toNat 0 := by
  unfold sumAt
  rw [List.take_add_one, List.map_append, List.sum_append]
  simp [hi]
theorem okMarks_get {m : List Int} (h : okMarks m = true) (i : Nat) : 0 ≤ m.getD i 0 ∧ m.getD i 0 ≤ 3 := by
  by_cases hi : i < m.length
  · have := List.all_eq_true.1 h (m.getD i 0) (by simp [hi])
    simp only [Bool.and_eq_true, decide_eq_true_eq] at this
    exact this
  · simp [hi]
theorem sumAt_bd {m : List Int} (h : okMarks m = true) : ∀ l : List Int, 0 ≤ sumAt m l ∧ sumAt m l ≤ 3 * l.length
  | [] => by simp [sumAt]
  | p :: l => by
    have h1 := sumAt_bd h l
    have h2 := okMarks_get h p.toNat
    have h3 : sumAt m (p :: l) = m.getD p.toNat 0 + sumAt m l := by simp [sumAt]
    rw [h3]
    simp only [List.length_cons]
    omega
/-- The place to which a key is led. -/
def leadV (p : Pd) (key : Str) : Int := (tri p.seed key p.seg 3).getD (sumAt (lI p.marks) (tri p.seed key p.seg 3) % 3).toNat 0
structure OkP (p : Pd) : Prop where
  s0 : 0 ≤ p.seed
  s1 : p.seed ≤ 9999
  g0 : 1 ≤ p.seg
  g1 : p.seg ≤ 24
  ml : ((lI p.marks).length : Int) = 3 * p.seg
  mo : okMarks (lI p.marks) = true
theorem okP_of {p : Pd} (h : okPd p = true) : OkP p := by
  simp only [okPd, Bool.and_eq_true, decide_eq_true_eq] at h
  exact ⟨h.1.1, h.1.2, h.2.1.1, h.2.1.2, h.2.2.1, h.2.2.2⟩
theorem leadV_bd {p : Pd} (h : OkP p) (key : Str) : 0 ≤ leadV p key ∧ leadV p key < (lI p.marks).length := by
  have hs := sumAt_bd h.mo (tri p.seed key p.seg 3)
  have := tri_bd (seed := p.seed) (key := key) (seg := p.seg) (i := (sumAt (lI p.marks) (tri p.seed key p.seg 3) % 3).toNat) (by have := h.g0; omega) (by omega)
  have := h.ml
  unfold leadV
  omega

theorem c_laws_pSameInts (a b : Option (List Int)) : Fn Tryz.prog 57 [eI a, eI b] (· = .bool (decide (lI a = lI b))) := by
  refine Fn.of free_bool fun h => ?_
  refine enter (by kernel_rfl) e57 (by kernel_rfl) rfl fun hok => ?_
  simp only [r57, initEnv_2]
  have ha := ok_eI (okV_0 hok)
  have hb := ok_eI (okV_1 hok)
  (try (simp (disch := first | omega | (simp <;> omega) | fail) only [push_cast, ↓reduceIte, Nat.reduceEqDiff, Nat.reduceAdd, Nat.reduceMul, Nat.reduceSub, Nat.reduceLT, Int.reduceToNat]))
  first | refine goC_split (fun hc => ?_) (fun hc => ?_) | refine cnd_split (fun hc => ?_) (fun hc => ?_)
  · (try (simp only [decide_eq_true_eq, decide_eq_false_iff_not, Bool.not_eq_true', Bool.not_eq_false', Bool.and_eq_true, Bool.or_eq_true, Int.not_lt, Int.not_le] at hc)); (try (simp (disch := first | omega | (simp <;> omega) | fail) only [push_cast, ↓reduceIte, Nat.reduceEqDiff, Nat.reduceAdd, Nat.reduceMul, Nat.reduceSub, Nat.reduceLT, Int.reduceToNat]))
    have : lI a ≠ lI b := fun h => hc (by rw [h])
    rw [decide_eq_false this]
  (try (simp only [decide_eq_true_eq, decide_eq_false_iff_not, Bool.not_eq_true', Bool.not_eq_false', Bool.and_eq_true, Bool.or_eq_true, Int.not_lt, Int.not_le] at hc)); (try (simp (disch := first | omega | (simp <;> omega) | fail) only [push_cast, ↓reduceIte, Nat.reduceEqDiff, Nat.reduceAdd, Nat.reduceMul, Nat.reduceSub, Nat.reduceLT, Int.reduceToNat]))
  have hll : (lI a).length = (lI b).length := by omega
  refine T_for (lI a).length (fun i e h' => Pins e [(0, eI a), (1, eI b), (12, .int .i64 (lI a).length), (13, .int .i64 i)] ∧ h' = h ∧ (lI a).take i = (lI b).take i) ?_ ?_
  · (try (simp (disch := first | omega | (simp <;> omega) | fail) only [push_cast, ↓reduceIte, Nat.reduceEqDiff, Nat.reduceAdd, Nat.reduceMul, Nat.reduceSub, Nat.reduceLT, Int.reduceToNat]))
    all_goals (try simp)
  rintro i e h' hi ⟨hp, rfl, ht⟩
  refine T_pins hp fun e => ?_
  (try (simp (disch := first | omega | (simp <;> omega) | fail) only [push_cast, ↓reduceIte, Nat.reduceEqDiff, Nat.reduceAdd, Nat.reduceMul, Nat.reduceSub, Nat.reduceLT, Int.reduceToNat]))
  first | refine goC_split (fun hd => ?_) (fun hd => ?_) | refine cnd_split (fun hd => ?_) (fun hd => ?_)
  · (try (simp only [decide_eq_true_eq, decide_eq_false_iff_not, Bool.not_eq_true', Bool.not_eq_false', Bool.and_eq_true, Bool.or_eq_true, Int.not_lt, Int.not_le] at hd)); (try (simp (disch := first | omega | (simp <;> omega) | fail) only [push_cast, ↓reduceIte, Nat.reduceEqDiff, Nat.reduceAdd, Nat.reduceMul, Nat.reduceSub, Nat.reduceLT, Int.reduceToNat]))
    have hi2 : i < (lI a).length := by omega
    have hi3 : i < (lI b).length := by omega
    have ha1 : (lI a).take (i + 1) = (lI a).take i ++ [(lI a).getD i 0] := by
      rw [List.take_add_one]
      simp [hi2]
    have hb1 : (lI b).take (i + 1) = (lI b).take i ++ [(lI b).getD i 0] := by
      rw [List.take_add_one]
      simp [hi3]
    (try (simp (disch := first | omega | (simp <;> omega) | fail) only [push_cast, ↓reduceIte, Nat.reduceEqDiff, Nat.reduceAdd, Nat.reduceMul, Nat.reduceSub, Nat.reduceLT, Int.reduceToNat]))
    first | refine goC_split (fun he => ?_) (fun he => ?_) | refine cnd_split (fun he => ?_) (fun he => ?_)
    · (try (simp only [decide_eq_true_eq, decide_eq_false_iff_not, Bool.not_eq_true', Bool.not_eq_false', Bool.and_eq_true, Bool.or_eq_true, Int.not_lt, Int.not_le] at he)); (try (simp (disch := first | omega | (simp <;> omega) | fail) only [push_cast, ↓reduceIte, Nat.reduceEqDiff, Nat.reduceAdd, Nat.reduceMul, Nat.reduceSub, Nat.reduceLT, Int.reduceToNat]))
      have : lI a ≠ lI b := fun h => he (by rw [h])
      rw [decide_eq_false this]
    · (try (simp only [decide_eq_true_eq, decide_eq_false_iff_not, Bool.not_eq_true', Bool.not_eq_false', Bool.and_eq_true, Bool.or_eq_true, Int.not_lt, Int.not_le] at he)); (try (simp (disch := first | omega | (simp <;> omega) | fail) only [push_cast, ↓reduceIte, Nat.reduceEqDiff, Nat.reduceAdd, Nat.reduceMul, Nat.reduceSub, Nat.reduceLT, Int.reduceToNat]))
      rw [ha1, hb1, ht, he]
      (try (simp (disch := first | omega | (simp <;> omega) | fail) only [push_cast, ↓reduceIte, Nat.reduceEqDiff, Nat.reduceAdd, Nat.reduceMul, Nat.reduceSub, Nat.reduceLT, Int.reduceToNat]))
  · (try (simp only [decide_eq_true_eq, decide_eq_false_iff_not, Bool.not_eq_true', Bool.not_eq_false', Bool.and_eq_true, Bool.or_eq_true, Int.not_lt, Int.not_le] at hd)); (try (simp (disch := first | omega | (simp <;> omega) | fail) only [push_cast, ↓reduceIte, Nat.reduceEqDiff, Nat.reduceAdd, Nat.reduceMul, Nat.reduceSub, Nat.reduceLT, Int.reduceToNat]))
    have : lI a = lI b := by
      rw [List.take_of_length_le (by omega), List.take_of_length_le (by omega)] at ht
      exact ht
    rw [decide_eq_true this]

theorem c_laws_pSameBits (b c : Bt) : Fn Tryz.prog 42 [eB b, eB c] (· = .bool (decide (b.size = c.size) && decide (lI b.words = lI c.words))) := by
  refine Fn.of free_bool fun h => ?_
  refine enter (by kernel_rfl) e42 (by kernel_rfl) rfl fun hok => ?_
  simp only [r42, initEnv_2]
  (try (simp (disch := first | omega | (simp <;> omega) | fail) only [push_cast, ↓reduceIte, Nat.reduceEqDiff, Nat.reduceAdd, Nat.reduceMul, Nat.reduceSub, Nat.reduceLT, Int.reduceToNat]))
  cases hs : decide (b.size = c.size)
  · (try (simp (disch := first | omega | (simp <;> omega) | fail) only [push_cast, ↓reduceIte, Nat.reduceEqDiff, Nat.reduceAdd, Nat.reduceMul, Nat.reduceSub, Nat.reduceLT, Int.reduceToNat]))
  (try (simp (disch := first | omega | (simp <;> omega) | fail) only [push_cast, ↓reduceIte, Nat.reduceEqDiff, Nat.reduceAdd, Nat.reduceMul, Nat.reduceSub, Nat.reduceLT, Int.reduceToNat]))
  refine (c_laws_pSameInts _ _).call ?_
  (try (simp (disch := first | omega | (simp <;> omega) | fail) only [push_cast, ↓reduceIte, Nat.reduceEqDiff, Nat.reduceAdd, Nat.reduceMul, Nat.reduceSub, Nat.reduceLT, Int.reduceToNat]))

theorem c_laws_pSameTrie (a b : Tr) : Fn Tryz.prog 11 [eTr a, eTr b] (· = .bool (sameT a b)) := by
  refine Fn.of free_bool fun h => ?_
  refine enter (by kernel_rfl) e11 (by kernel_rfl) rfl fun hok => ?_
  simp only [r11, initEnv_2]
  have hs : sameT a b = (sameB a.sh b.sh && (sameB a.en b.en && decide (a.lab = b.lab))) := rfl
  have hB : ∀ x y : Bt, Fn Tryz.prog 42 [eB x, eB y] (· = .bool (sameB x y)) := fun x y => c_laws_pSameBits x y
  rw [hs]
  (try (simp (disch := first | omega | (simp <;> omega) | fail) only [push_cast, ↓reduceIte, Nat.reduceEqDiff, Nat.reduceAdd, Nat.reduceMul, Nat.reduceSub, Nat.reduceLT, Int.reduceToNat]))
  refine (hB a.sh b.sh).call ?_
  cases h1 : sameB a.sh b.sh
  · (try (simp (disch := first | omega | (simp <;> omega) | fail) only [push_cast, ↓reduceIte, Nat.reduceEqDiff, Nat.reduceAdd, Nat.reduceMul, Nat.reduceSub, Nat.reduceLT, Int.reduceToNat]))
  (try (simp (disch := first | omega | (simp <;> omega) | fail) only [push_cast, ↓reduceIte, Nat.reduceEqDiff, Nat.reduceAdd, Nat.reduceMul, Nat.reduceSub, Nat.reduceLT, Int.reduceToNat]))
  refine (hB a.en b.en).call ?_
  cases h2 : sameB a.en b.en
  · (try (simp (disch := first | omega | (simp <;> omega) | fail) only [push_cast, ↓reduceIte, Nat.reduceEqDiff, Nat.reduceAdd, Nat.reduceMul, Nat.reduceSub, Nat.reduceLT, Int.reduceToNat]))
  · by_cases hl : a.lab = b.lab
    · (try (simp (disch := first | omega | (simp <;> omega) | fail) only [push_cast, ↓reduceIte, Nat.reduceEqDiff, Nat.reduceAdd, Nat.reduceMul, Nat.reduceSub, Nat.reduceLT, Int.reduceToNat, hl]))
    · (try (simp (disch := first | omega | (simp <;> omega) | fail) only [push_cast, ↓reduceIte, Nat.reduceEqDiff, Nat.reduceAdd, Nat.reduceMul, Nat.reduceSub, Nat.reduceLT, Int.reduceToNat, hl]))

theorem c_impl_TrieHas (t : Tr) (s : Str) : Fn Tryz.prog 12 [eTr t, .str s] (· = haD t s) := by
  refine Fn.of (by unfold haD; split <;> exact free_tup (free_cons_ free_bool (free_cons_ free_bool free_nil_))) fun h => ?_
  refine enter (by kernel_rfl) e12 (by kernel_rfl) rfl fun hok => ?_
  simp only [r12, initEnv_2]
  have hk := c_impl_Trie_keys_o t
  have hpv : haD t s = match trV t with | some K => .tup [.bool (decide (s ∈ K)), .bool true] | none => .tup [.bool false, .bool false] := rfl
  have hfc := @free_cTr t
  generalize haD t s = R at hpv
  have hcb0 : H.cells (h ++ [some (.cells (cTr t))]) h.length = some (cTr t) := by rw [cells_h0]; rfl
  have hg : ∀ v, KyR t (fun _ => true) v → ∃ o b, v = .tup [eS o, .bool b] ∧ ((b = true ∧ trV t = some (lS o)) ∨ (b = false ∧ trV t = none ∧ lS o = [])) := fun v => KyR_get
  obtain ⟨⟨ss, sw⟩, ⟨es, ew⟩, lab⟩ := t
  (try (simp (disch := first | omega | (simp <;> omega) | fail) only [push_cast, ↓reduceIte, Nat.reduceEqDiff, Nat.reduceAdd, Nat.reduceMul, Nat.reduceSub, Nat.reduceLT, Int.reduceToNat]))
  refine hk.goL (.adr hcb0 hfc .nil) fun x t' g hR hx how => ?_
  obtain ⟨o, b, rfl, hob⟩ := hg _ hR
  obtain ⟨y, rfl, hy⟩ := ow_tup2 rfl how
  have hRv : R = .tup [.bool (decide (s ∈ lS o)), .bool b] := by
    rw [hpv]
    rcases hob with ⟨rfl, h2⟩ | ⟨rfl, h2, h3⟩
    · rw [h2]
    · rw [h2, h3]
      simp
  subst hRv
  (try (simp (disch := first | omega | (simp <;> omega) | fail) only [push_cast, ↓reduceIte, Nat.reduceEqDiff, Nat.reduceAdd, Nat.reduceMul, Nat.reduceSub, Nat.reduceLT, Int.reduceToNat]))
  refine (c_slices_Contains_string o s).lendL (.cons hy.vw0 (.free free_str .nil)) own_bool ?_
  (try (simp (disch := first | omega | (simp <;> omega) | fail) only [push_cast, ↓reduceIte, Nat.reduceEqDiff, Nat.reduceAdd, Nat.reduceMul, Nat.reduceSub, Nat.reduceLT, Int.reduceToNat]))

theorem c_impl_TrieRank (t : Tr) (s : Str) : Fn Tryz.prog 14 [eTr t, .str s] (· = rkV t s) := by
  refine Fn.of (by unfold rkV; split <;> first | exact free_zF | exact free_tup (free_cons_ free_int (free_cons_ free_bool free_nil_))) fun h => ?_
  refine enter (by kernel_rfl) e14 (by kernel_rfl) rfl fun hok => ?_
  simp only [r14, initEnv_2]
  have hk := c_impl_Trie_keys_o t
  have hkk := fun K => @trV_ok t K
  have hpv : rkV t s = match trV t with | some K => .tup [.int .i64 (rkS K s), .bool true] | none => zF := rfl
  have hfc := @free_cTr t
  generalize rkV t s = R at hpv
  have hcb0 : H.cells (h ++ [some (.cells (cTr t))]) h.length = some (cTr t) := by rw [cells_h0]; rfl
  have hg : ∀ v, KyR t (fun _ => true) v → ∃ o b, v = .tup [eS o, .bool b] ∧ ((b = true ∧ trV t = some (lS o)) ∨ (b = false ∧ trV t = none ∧ lS o = [])) := fun v => KyR_get
  obtain ⟨⟨ss, sw⟩, ⟨es, ew⟩, lab⟩ := t
  (try (simp (disch := first | omega | (simp <;> omega) | fail) only [push_cast, ↓reduceIte, Nat.reduceEqDiff, Nat.reduceAdd, Nat.reduceMul, Nat.reduceSub, Nat.reduceLT, Int.reduceToNat]))
  refine hk.goL (.adr hcb0 hfc .nil) fun x t' g hR hx how => ?_
  obtain ⟨o, b, rfl, hob⟩ := hg _ hR
  obtain ⟨y, rfl, hy⟩ := ow_tup2 rfl how
  have hpw : (lS o).Pairwise slt ∧ (lS o).length ≤ 1000000 := by
    rcases hob with ⟨_, h2⟩ | ⟨_, _, h2⟩
    · have := hkk _ h2
      exact ⟨(okKeys_all this.1).2.1, by omega⟩
    · rw [h2]
      exact ⟨.nil, by simp⟩
  have hRv : R = .tup [.int .i64 (rkS (lS o) s), .bool b] := by
    rw [hpv]
    rcases hob with ⟨rfl, h2⟩ | ⟨rfl, h2, h3⟩
    · rw [h2]
    · rw [h2, h3]
      rfl
  subst hRv
  have hb2 := c_slices_BinarySearch_string o s hpw.1 hpw.2
  have hlend : Lend g [y, .str s] [eS o, .str s] := .cons hy.vw0 (.free free_str .nil)
  (try (simp (disch := first | omega | (simp <;> omega) | fail) only [push_cast, ↓reduceIte, Nat.reduceEqDiff, Nat.reduceAdd, Nat.reduceMul, Nat.reduceSub, Nat.reduceLT, Int.reduceToNat]))
  refine hb2.lend hlend.len hlend.get (fun z hz => ?_) (fun z hz => ?_)
  · obtain ⟨q, rfl⟩ := hz
    exact own_tup (own_cons_ own_int (own_cons_ own_bool own_nil_))
  · obtain ⟨q, rfl⟩ := hz
    (try (simp (disch := first | omega | (simp <;> omega) | fail) only [push_cast, ↓reduceIte, Nat.reduceEqDiff, Nat.reduceAdd, Nat.reduceMul, Nat.reduceSub, Nat.reduceLT, Int.reduceToNat]))

theorem c_impl_beginning_o (o : Option (List Str)) (s : Str) (ho : ∀ x ∈ lS o, x.length ≤ 1000) (hl : (lS o).length ≤ 1000) (hs : s.length ≤ 1000000000) : FnO Tryz.prog 47 [eS o, .str s] (fun v => ∃ L, v = eS (some L) ∧ L = (lS o).filter (pfB s)) := by
  intro h
  refine enter (by kernel_rfl) e47 (by kernel_rfl) rfl fun hok => ?_
  simp only [r47, initEnv_2]
  (try (simp (disch := first | omega | (simp <;> omega) | fail) only [push_cast, ↓reduceIte, Nat.reduceEqDiff, Nat.reduceAdd, Nat.reduceMul, Nat.reduceSub, Nat.reduceLT, Int.reduceToNat]))
  refine T_for (lS o).length (fun k e h' => ∃ v, Pins e [(1, .str s), (5, v), (9, eS o), (10, .int .i64 (lS o).length), (11, .int .i64 k)] ∧ (GsI AV.str h.length h' v (((lS o).take k).filter (pfB s)) ∧ v ≠ .nils)) ?_ ?_
  · refine ⟨.sl h.length 0 1 0 0, ?_⟩
    have hg0 : GsI AV.str h.length (h ++ [some (.cells [])]) (.sl h.length 0 1 0 0) [] := ⟨by simp, [h.length], ⟨rfl, .inr ⟨_, rfl, rfl, by rw [cells_h0]; rfl⟩⟩, by simp⟩
    (try (simp (disch := first | omega | (simp <;> omega) | fail) only [push_cast, ↓reduceIte, Nat.reduceEqDiff, Nat.reduceAdd, Nat.reduceMul, Nat.reduceSub, Nat.reduceLT, Int.reduceToNat]))
    all_goals (try exact ⟨hg0, by simp⟩)
    all_goals (try exact hg0)
  rintro k e h' hk ⟨v, hp, hs2, hv⟩
  refine T_pins hp fun e => ?_
  (try (simp (disch := first | omega | (simp <;> omega) | fail) only [push_cast, ↓reduceIte, Nat.reduceEqDiff, Nat.reduceAdd, Nat.reduceMul, Nat.reduceSub, Nat.reduceLT, Int.reduceToNat]))
  first | refine goC_split (fun hc => ?_) (fun hc => ?_) | refine cnd_split (fun hc => ?_) (fun hc => ?_)
  · (try (simp only [decide_eq_true_eq, decide_eq_false_iff_not, Bool.not_eq_true', Bool.not_eq_false', Bool.and_eq_true, Bool.or_eq_true, Int.not_lt, Int.not_le] at hc)); (try (simp (disch := first | omega | (simp <;> omega) | fail) only [push_cast, ↓reduceIte, Nat.reduceEqDiff, Nat.reduceAdd, Nat.reduceMul, Nat.reduceSub, Nat.reduceLT, Int.reduceToNat]))
    have hk2 : k < (lS o).length := by omega
    obtain ⟨x, hxd⟩ : ∃ x, x = (lS o).getD k [] := ⟨_, rfl⟩
    have hxl : x.length ≤ 1000 := ho x (by rw [hxd]; simp [hk2])
    have htk : (lS o).take (k + 1) = (lS o).take k ++ [x] := by
      rw [List.take_add_one, hxd]
      simp [hk2]
    have hle : (((lS o).take k).filter (pfB s)).length ≤ k := Nat.le_trans (List.length_filter_le _ _) (by rw [List.length_take]; omega)
    have hpf : pfB s x = (decide (s.length ≤ x.length) && decide (x.take s.length = s)) := rfl
    (try (simp (disch := first | omega | (simp <;> omega) | fail) only [push_cast, ↓reduceIte, Nat.reduceEqDiff, Nat.reduceAdd, Nat.reduceMul, Nat.reduceSub, Nat.reduceLT, Int.reduceToNat, ← hxd]))
    refine (c_strings_HasPrefix x s (by omega) hs).call ?_
    rw [← hpf]
    cases hb : pfB s x
    · have e1 : ((lS o).take (k + 1)).filter (pfB s) = ((lS o).take k).filter (pfB s) := by
        rw [htk, List.filter_append]
        simp [hb]
      rw [← e1] at hs2
      (try (simp (disch := first | omega | (simp <;> omega) | fail) only [push_cast, ↓reduceIte, Nat.reduceEqDiff, Nat.reduceAdd, Nat.reduceMul, Nat.reduceSub, Nat.reduceLT, Int.reduceToNat]))
      all_goals (try exact ⟨_, rfl, hs2, hv⟩)
      all_goals (try exact ⟨hs2, hv⟩)
    · have e1 : ((lS o).take (k + 1)).filter (pfB s) = ((lS o).take k).filter (pfB s) ++ [x] := by
        rw [htk, List.filter_append]
        simp [hb]
      (try (simp (disch := first | omega | (simp <;> omega) | fail) only [push_cast, ↓reduceIte, Nat.reduceEqDiff, Nat.reduceAdd, Nat.reduceMul, Nat.reduceSub, Nat.reduceLT, Int.reduceToNat]))
      refine hs2.app (by_ := 16) (fun c hc => by first | exact Or.inr (by omega) | exact ⟨Or.inr (by omega), by omega⟩) (by omega) (by decide) fun v' h'' q1 q2 q3 => ?_
      have hv2 : v' ≠ .nils := by
        obtain ⟨b, hb2, _⟩ := q1.at_ (by simp)
        rw [hb2]
        simp
      rw [← e1] at q1
      (try (simp (disch := first | omega | (simp <;> omega) | fail) only [push_cast, ↓reduceIte, Nat.reduceEqDiff, Nat.reduceAdd, Nat.reduceMul, Nat.reduceSub, Nat.reduceLT, Int.reduceToNat]))
      all_goals (try exact ⟨_, rfl, q1, hv2⟩)
      all_goals (try exact ⟨q1, hv2⟩)
  · (try (simp only [decide_eq_true_eq, decide_eq_false_iff_not, Bool.not_eq_true', Bool.not_eq_false', Bool.and_eq_true, Bool.or_eq_true, Int.not_lt, Int.not_le] at hc)); (try (simp (disch := first | omega | (simp <;> omega) | fail) only [push_cast, ↓reduceIte, Nat.reduceEqDiff, Nat.reduceAdd, Nat.reduceMul, Nat.reduceSub, Nat.reduceLT, Int.reduceToNat]))
    have hke : k = (lS o).length := by omega
    subst hke
    rw [List.take_length] at hs2
    obtain ⟨hn0, B, hS, hB⟩ := hs2
    rcases hS.2 with ⟨h5, _, _⟩ | ⟨b, hvb, hBb, hcb⟩
    · exact absurd h5 hv
    subst hvb
    have hb0 : h.length ≤ b := hB b (by rw [hBb]; simp)
    have hfin : ∃ t, Ow h' [.sl b 0 1 ((lS o).filter (pfB s)).length ((lS o).filter (pfB s)).length] [t] (fun c => h.length ≤ c) ∧ ∃ L, t = eS (some L) ∧ L = (lS o).filter (pfB s) := ⟨_, ow_strs_of hcb hb0, _, rfl, rfl⟩
    (try (simp (disch := first | omega | (simp <;> omega) | fail) only [push_cast, ↓reduceIte, Nat.reduceEqDiff, Nat.reduceAdd, Nat.reduceMul, Nat.reduceSub, Nat.reduceLT, Int.reduceToNat]))
    all_goals (try exact hfin)

theorem c_impl_KeysWithPrefix_o (t : Tr) (s : Str) (hs : s.length ≤ 1000000000) : FnO Tryz.prog 16 [eTr t, .str s] (KyR t (pfB s)) := by
  intro h
  refine enter (by kernel_rfl) e16 (by kernel_rfl) rfl fun hok => ?_
  simp only [r16, initEnv_2]
  have hk := c_impl_Trie_keys_o t
  have hkk := fun K => @trV_ok t K
  have hfc := @free_cTr t
  have hcb0 : H.cells (h ++ [some (.cells (cTr t))]) h.length = some (cTr t) := by rw [cells_h0]; rfl
  have hg : ∀ v, KyR t (fun _ => true) v → ∃ o b, v = .tup [eS o, .bool b] ∧ ((b = true ∧ trV t = some (lS o)) ∨ (b = false ∧ trV t = none ∧ lS o = [])) := fun v => KyR_get
  have hno : trV t = none → ∀ hh : H, ∃ t', Ow hh [.tup [.nils, .bool false]] [t'] (fun c => h.length ≤ c) ∧ KyR t (pfB s) t' := fun h5 hh => ⟨_, ow_tup2_of rfl (.atom rfl .nil), KyR.no h5⟩
  have hyes : ∀ K, trV t = some K → ∀ (hh : H) (y : AV), Ow hh [y] [eS (some (K.filter (pfB s)))] (fun c => h.length ≤ c) → ∃ t', Ow hh [.tup [y, .bool true]] [t'] (fun c => h.length ≤ c) ∧ KyR t (pfB s) t' := fun K h5 hh y hy => ⟨_, ow_tup2_of rfl hy, some (K.filter (pfB s)), true, rfl, .inl ⟨rfl, K, h5, rfl⟩⟩
  obtain ⟨⟨ss, sw⟩, ⟨es, ew⟩, lab⟩ := t
  (try (simp (disch := first | omega | (simp <;> omega) | fail) only [push_cast, ↓reduceIte, Nat.reduceEqDiff, Nat.reduceAdd, Nat.reduceMul, Nat.reduceSub, Nat.reduceLT, Int.reduceToNat]))
  refine hk.goL (.adr hcb0 hfc .nil) fun x t' g hR hx how => ?_
  obtain ⟨o, b, rfl, hob⟩ := hg _ hR
  obtain ⟨y, rfl, hy⟩ := ow_tup2 rfl how
  rcases hob with ⟨rfl, h2⟩ | ⟨rfl, h2, _⟩
  · have hKo := hkk _ h2
    have hB := c_impl_beginning_o o s (fun x hx5 => by have := (okKey_len ((okKeys_all hKo.1).1 x hx5)).2; omega) (by omega) hs
    (try (simp (disch := first | omega | (simp <;> omega) | fail) only [push_cast, ↓reduceIte, Nat.reduceEqDiff, Nat.reduceAdd, Nat.reduceMul, Nat.reduceSub, Nat.reduceLT, Int.reduceToNat]))
    refine hB.goL (.cons hy.vw0 (.free free_str .nil)) fun z t2 g2 hR2 hx2 how2 => ?_
    obtain ⟨L, rfl, rfl⟩ := hR2
    have hl := hx.len
    simp only [List.length_append, List.length_cons, List.length_nil] at hl
    have hf := hyes _ h2 g2 z (how2.mono fun c hc => by have := hc.1; omega)
    (try (simp (disch := first | omega | (simp <;> omega) | fail) only [push_cast, ↓reduceIte, Nat.reduceEqDiff, Nat.reduceAdd, Nat.reduceMul, Nat.reduceSub, Nat.reduceLT, Int.reduceToNat]))
    all_goals (try exact hf)
  · have hf := hno h2
    (try (simp (disch := first | omega | (simp <;> omega) | fail) only [push_cast, ↓reduceIte, Nat.reduceEqDiff, Nat.reduceAdd, Nat.reduceMul, Nat.reduceSub, Nat.reduceLT, Int.reduceToNat]))
    all_goals (try exact hf _)

theorem c_laws_pSameTexts (a b : Option (List Str)) (hab : lS a = lS b) : Fn Tryz.prog 18 [eS a, eS b] (· = .bool true) := by
  refine Fn.of free_bool fun h => ?_
  refine enter (by kernel_rfl) e18 (by kernel_rfl) rfl fun hok => ?_
  simp only [r18, initEnv_2]
  have ha := ok_eS (okV_0 hok)
  have hl : (lS a).length = (lS b).length := by rw [hab]
  (try (simp (disch := first | omega | (simp <;> omega) | fail) only [push_cast, ↓reduceIte, Nat.reduceEqDiff, Nat.reduceAdd, Nat.reduceMul, Nat.reduceSub, Nat.reduceLT, Int.reduceToNat, hl]))
  refine T_for (lS b).length (fun i e h' => Pins e [(0, eS a), (1, eS b), (12, .int .i64 (lS b).length), (13, .int .i64 i)] ∧ h' = h) ?_ ?_
  · (try (simp (disch := first | omega | (simp <;> omega) | fail) only [push_cast, ↓reduceIte, Nat.reduceEqDiff, Nat.reduceAdd, Nat.reduceMul, Nat.reduceSub, Nat.reduceLT, Int.reduceToNat, hl]))
  rintro i e h' hi ⟨hp, rfl⟩
  refine T_pins hp fun e => ?_
  (try (simp (disch := first | omega | (simp <;> omega) | fail) only [push_cast, ↓reduceIte, Nat.reduceEqDiff, Nat.reduceAdd, Nat.reduceMul, Nat.reduceSub, Nat.reduceLT, Int.reduceToNat]))
  first | refine goC_split (fun hc => ?_) (fun hc => ?_) | refine cnd_split (fun hc => ?_) (fun hc => ?_)
  · (try (simp only [decide_eq_true_eq, decide_eq_false_iff_not, Bool.not_eq_true', Bool.not_eq_false', Bool.and_eq_true, Bool.or_eq_true, Int.not_lt, Int.not_le] at hc)); (try (simp (disch := first | omega | (simp <;> omega) | fail) only [push_cast, ↓reduceIte, Nat.reduceEqDiff, Nat.reduceAdd, Nat.reduceMul, Nat.reduceSub, Nat.reduceLT, Int.reduceToNat]))
    have hi2 : i < (lS b).length := by omega
    have hi3 : i < (lS a).length := by omega
    have hg : (lS a).getD i [] = (lS b).getD i [] := by rw [hab]
    (try (simp (disch := first | omega | (simp <;> omega) | fail) only [push_cast, ↓reduceIte, Nat.reduceEqDiff, Nat.reduceAdd, Nat.reduceMul, Nat.reduceSub, Nat.reduceLT, Int.reduceToNat, hg, reads, List.mem_cons, List.mem_append, List.not_mem_nil, nat_ff, or_self, or_false, false_or, not_false_eq_true]))
  · (try (simp only [decide_eq_true_eq, decide_eq_false_iff_not, Bool.not_eq_true', Bool.not_eq_false', Bool.and_eq_true, Bool.or_eq_true, Int.not_lt, Int.not_le] at hc)); (try (simp (disch := first | omega | (simp <;> omega) | fail) only [push_cast, ↓reduceIte, Nat.reduceEqDiff, Nat.reduceAdd, Nat.reduceMul, Nat.reduceSub, Nat.reduceLT, Int.reduceToNat]))

def decV (l : Str) : Nat := l.foldl (fun a c => 10 * a + (c.toNat - 48)) 0
theorem decV_dec : ∀ n : Nat, decV (Lib.decDigits n) = n := fun n => by
  induction n using Nat.strongRecOn with
  | _ n ih =>
    rw [dec_rec]
    by_cases hn : n < 10
    · rw [if_pos hn]
      simp [decV]
      omega
    · rw [if_neg hn]
      unfold decV at ih ⊢
      rw [List.foldl_append, ih (n / 10) (by omega)]
      simp
      omega

def beforeT (s : Str) : Str := s.takeWhile fun c => c != 126
def openOk (s t : Str) : Bool := plainV t && decide (sealT t = s)
def openV (s : Str) : AV := if openOk s (beforeT s) then .tup [.str (beforeT s), .bool true] else .tup [.str [], .bool false]
theorem free_openV {s : Str} : Free (openV s) := by
  unfold openV
  split <;> exact free_tup (free_cons_ free_str (free_cons_ free_bool free_nil_))
theorem plain_no126 {t : Str} (h : plain t = true) : ∀ c ∈ t, (c != 126) = true := by
  intro c hc
  have := List.all_eq_true.1 h c hc
  simp only [okCh, Bool.and_eq_true, decide_eq_true_eq] at this
  simp only [bne_iff_ne, ne_eq]
  intro he
  subst he
  simp at this
theorem plainV_plain {t : Str} (h : plainV t = true) : plain t = true := by
  simp only [plainV, Bool.and_eq_true] at h
  exact h.1
theorem before_app {t r : Str} (h : ∀ c ∈ t, (c != 126) = true) : beforeT (t ++ 126 :: r) = t := by
  unfold beforeT
  rw [List.takeWhile_append_of_pos h]
  simp
theorem sealT_len (t : Str) : t.length < (sealT t).length := by
  unfold sealT
  simp
theorem dec_no126 {n : Nat} : (126 : UInt8) ∉ Lib.decDigits n := fun h => by
  have := dec_plain n 126 h
  simp at this
theorem before_no : ∀ {s : Str}, (126 : UInt8) ∉ s → beforeT s = s
  | [], _ => rfl
  | c :: s, h => by
    simp only [List.mem_cons, not_or] at h
    have ih := before_no h.2
    have hc : (c != 126) = true := by simpa using Ne.symm h.1
    unfold beforeT at ih ⊢
    rw [List.takeWhile_cons, if_pos hc, ih]
theorem open_none {s : Str} (h : (126 : UInt8) ∉ s) : openOk s (beforeT s) = false := by
  rw [before_no h]
  unfold openOk
  have := sealT_len s
  have hne : sealT s ≠ s := fun he => by
    rw [he] at this
    omega
  simp [hne]
theorem split_at {s : Str} {a : Nat} (ha : a < s.length) (hc : s.getD a 0 = 126) : s = s.take a ++ 126 :: s.drop (a + 1) := by
  have h1 : s[a] = 126 := by simpa [ha] using hc
  conv => lhs; rw [← List.take_append_drop a s, List.drop_eq_getElem_cons ha, h1]
/-- The last mark serves as well as the first. -/
theorem open_last {s : Str} {a : Nat} (ha : a < s.length) (hc : s.getD a 0 = 126) (hd : (126 : UInt8) ∉ s.drop (a + 1)) : openOk s (s.take a) = openOk s (beforeT s) ∧ (openOk s (s.take a) = true → s.take a = beforeT s) := by
  have hs := split_at ha hc
  by_cases hp : plainV (s.take a) = true
  · have hb : beforeT s = s.take a := by
      conv => lhs; rw [hs]
      exact before_app (plain_no126 (plainV_plain hp))
    rw [hb]
    exact ⟨rfl, fun _ => rfl⟩
  · have h1 : openOk s (s.take a) = false := by
      unfold openOk
      rw [Bool.not_eq_true] at hp
      rw [hp]
      rfl
    refine ⟨?_, fun h => by rw [h1] at h; cases h⟩
    rw [h1]
    cases h2 : openOk s (beforeT s) with
    | false => rfl
    | true =>
      exfalso
      simp only [openOk, Bool.and_eq_true, decide_eq_true_eq] at h2
      obtain ⟨p1, p2⟩ := h2
      generalize beforeT s = t at p1 p2
      unfold sealT at p2
      have hget : (t ++ 126 :: Lib.decDigits (chk t t.length).toNat)[a]? = some 126 := by
        rw [p2]
        simpa [ha] using hc
      rcases Nat.lt_trichotomy a t.length with h5 | h5 | h5
      · rw [List.getElem?_append_left h5] at hget
        have := plain_no126 (plainV_plain p1) 126 (List.mem_of_getElem? hget)
        simp at this
      · subst h5
        refine hp ?_
        rw [← p2, List.take_left]
        exact p1
      · rw [List.getElem?_append_right (by omega), show a - t.length = (a - t.length - 1) + 1 by omega, List.getElem?_cons_succ] at hget
        exact dec_no126 (List.mem_of_getElem? hget)

theorem dec_inj {n m : Nat} (h : Lib.decDigits n = Lib.decDigits m) : n = m := by
  rw [← decV_dec n, h, decV_dec]
/-- The weighted sum. -/
def wsum (s : Str) : Nat → Int
  | 0 => 0
  | i + 1 => wsum s i + ((i : Int) + 1) * ((s.getD i 0).toNat : Int)
theorem chk_wsum (s : Str) : ∀ i, chk s i = wsum s i % 65521
  | 0 => by simp [chk, wsum]
  | i + 1 => by
    unfold chk wsum
    rw [chk_wsum s i, Int.emod_add_emod]
theorem getD_set {s : Str} {i j : Nat} {o : UInt8} (hi : i < s.length) : (s.set i o).getD j 0 = if j = i then o else s.getD j 0 := by
  simp only [List.getD_eq_getElem?_getD, List.getElem?_set]
  by_cases hj : i = j
  · subst hj
    simp [hi]
  · rw [if_neg hj, if_neg (Ne.symm hj)]
theorem wsum_set {s : Str} {i : Nat} {o : UInt8} (hi : i < s.length) : ∀ n, wsum (s.set i o) n = wsum s n + if i < n then ((i : Int) + 1) * ((o.toNat : Int) - ((s.getD i 0).toNat : Int)) else 0
  | 0 => by simp [wsum]
  | n + 1 => by
    unfold wsum
    rw [wsum_set hi n, getD_set hi]
    by_cases hn : n = i
    · subst hn
      rw [if_neg (by omega), if_pos rfl, if_pos (by omega), Int.mul_sub]
      omega
    · rw [if_neg hn]
      by_cases h5 : i < n
      · rw [if_pos h5, if_pos (show i < n + 1 by omega)]
        omega
      · simp only [if_neg h5, if_neg (show ¬ i < n + 1 by omega), Int.add_zero]
theorem cop : ∀ d, d < 94 → d ≠ 0 → Nat.gcd 65521 d = 1 := by decide
theorem chk_ne {s : Str} {i : Nat} {o : UInt8} (hi : i < s.length) (hl : s.length ≤ 6000) (h1 : okCh (s.getD i 0) = true) (h2 : okCh o = true) (hne : o ≠ s.getD i 0) : chk (s.set i o) s.length ≠ chk s s.length := by
  simp only [okCh, Bool.and_eq_true, decide_eq_true_eq] at h1 h2
  rw [chk_wsum, chk_wsum, wsum_set hi, if_pos hi]
  generalize wsum s s.length = t
  intro h
  have hne2 : o.toNat ≠ (s.getD i 0).toNat := fun he => hne (UInt8.toNat_inj.1 he)
  generalize (s.getD i 0).toNat = a at h1 hne2 h
  generalize o.toNat = b at h2 hne2 h
  have hd : (65521 : Int) ∣ ((i : Int) + 1) * ((b : Int) - (a : Int)) := by
    have := Int.emod_emod_of_dvd (t + ((i : Int) + 1) * ((b : Int) - (a : Int))) (Int.dvd_refl 65521)
    have h3 : (t + ((i : Int) + 1) * ((b : Int) - (a : Int)) - t) % 65521 = 0 := by
      rw [Int.sub_emod, h, Int.sub_self]
      rfl
    rw [show t + ((i : Int) + 1) * ((b : Int) - (a : Int)) - t = ((i : Int) + 1) * ((b : Int) - (a : Int)) by omega] at h3
    exact Int.dvd_of_emod_eq_zero h3
  have hn : 65521 ∣ (i + 1) * ((b : Int) - (a : Int)).natAbs := by
    have := Int.natAbs_dvd_natAbs.2 hd
    rw [Int.natAbs_mul] at this
    have e : ((i : Int) + 1).natAbs = i + 1 := by omega
    rw [e] at this
    exact this
  have hc := cop ((b : Int) - (a : Int)).natAbs (by omega) (by omega)
  have := Nat.Coprime.dvd_of_dvd_mul_right hc hn
  have := Nat.le_of_dvd (by omega) this
  omega
theorem open_sealed {s : Str} (hp : plainV s = true) : openOk (sealT s) (beforeT (sealT s)) = true ∧ beforeT (sealT s) = s := by
  have hb : beforeT (sealT s) = s := by
    unfold sealT
    exact before_app (plain_no126 (plainV_plain hp))
  rw [hb]
  unfold openOk
  simp [hp]
theorem seal_damage {s : Str} {i : Nat} {o : UInt8} (hp : plainV s = true) (hi : i < (sealT s).length) : openOk ((sealT s).set i o) (beforeT ((sealT s).set i o)) = decide (o = (sealT s).getD i 0) := by
  by_cases ho : o = (sealT s).getD i 0
  · have : (sealT s).set i o = sealT s := by
      rw [ho]
      refine List.ext_getElem? fun j => ?_
      rw [List.getElem?_set]
      by_cases hj : i = j
      · subst hj
        simp [hi]
      · rw [if_neg hj]
    rw [this, (open_sealed hp).1]
    simp [ho]
  · rw [decide_eq_false ho]
    have hpl := plainV_plain hp
    have hl : s.length ≤ 6000 := by
      simp only [plainV, Bool.and_eq_true, decide_eq_true_eq] at hp
      omega
    have h126 := plain_no126 hpl
    cases hq : openOk ((sealT s).set i o) (beforeT ((sealT s).set i o)) with
    | false => rfl
    | true =>
      exfalso
      have hq2 := hq
      simp only [openOk, Bool.and_eq_true, decide_eq_true_eq] at hq2
      obtain ⟨q1, q2⟩ := hq2
      rcases Nat.lt_trichotomy i s.length with h5 | h5 | h5
      · have hset : (sealT s).set i o = s.set i o ++ 126 :: Lib.decDigits (chk s s.length).toNat := by
          unfold sealT
          rw [List.set_append_left _ _ h5]
        have hgi : (sealT s).getD i 0 = s.getD i 0 := by
          unfold sealT
          simp [List.getElem?_append_left h5]
        rw [hgi] at ho
        by_cases ho6 : o = 126
        · have hcut : s.set i o = s.take i ++ 126 :: s.drop (i + 1) := by
            rw [List.set_eq_take_append_cons_drop, if_pos h5, ho6]
          have hb : beforeT ((sealT s).set i o) = s.take i := by
            rw [hset, hcut, List.append_assoc]
            exact before_app fun c hc => h126 c (List.mem_of_mem_take hc)
          rw [hb, hset, hcut] at q2
          unfold sealT at q2
          rw [List.append_assoc] at q2
          have q3 := List.append_cancel_left q2
          simp only [List.cons_append, List.cons.injEq, true_and] at q3
          have : (126 : UInt8) ∈ Lib.decDigits (chk (s.take i) (s.take i).length).toNat := by
            rw [q3]
            simp
          exact dec_no126 this
        · have hall : ∀ c ∈ s.set i o, (c != 126) = true := by
            intro c hc
            rcases List.mem_or_eq_of_mem_set hc with h6 | h6
            · exact h126 c h6
            · subst h6
              simpa using ho6
          have hb : beforeT ((sealT s).set i o) = s.set i o := by
            rw [hset]
            exact before_app hall
          rw [hb, hset] at q2
          rw [hb] at q1
          unfold sealT at q2
          have q3 := List.append_cancel_left q2
          simp only [List.cons.injEq, true_and] at q3
          have q4 := dec_inj q3
          rw [List.length_set] at q4
          obtain ⟨a1, _⟩ := chk_bd (s.set i o) s.length
          obtain ⟨b1, _⟩ := chk_bd s s.length
          refine chk_ne h5 hl (List.all_eq_true.1 hpl _ (by simp [h5])) (List.all_eq_true.1 (plainV_plain q1) o ?_) ho (by omega)
          exact List.mem_of_getElem? (i := i) (by simp [h5])
      · have hset : (sealT s).set i o = s ++ o :: Lib.decDigits (chk s s.length).toNat := by
          unfold sealT
          rw [h5]
          exact set_last
        have hgi : (sealT s).getD i 0 = 126 := by
          unfold sealT
          rw [h5]
          simp
        rw [hgi] at ho
        have hno : (126 : UInt8) ∉ (sealT s).set i o := by
          rw [hset]
          intro h6
          rcases List.mem_append.1 h6 with h6 | h6
          · have := h126 126 h6
            simp at this
          · rcases List.mem_cons.1 h6 with h6 | h6
            · exact ho h6.symm
            · exact dec_no126 h6
        rw [open_none hno] at hq
        cases hq
      · have hset : (sealT s).set i o = s ++ 126 :: (Lib.decDigits (chk s s.length).toNat).set (i - s.length - 1) o := by
          unfold sealT
          rw [List.set_append_right _ _ (by omega), show i - s.length = (i - s.length - 1) + 1 by omega, List.set_cons_succ]
          rfl
        have hb : beforeT ((sealT s).set i o) = s := by
          rw [hset]
          exact before_app h126
        rw [hb] at q2
        refine ho ?_
        have : ((sealT s).set i o).getD i 0 = o := by simp [hi]
        rw [← q2] at this
        exact this.symm

theorem fit_bytes {zs : List AV} (h : Fit (.sl (.int .u8) 1) zs) : ∃ a : Option (List UInt8), zs = [eU a] := by
  have key : ∀ xs, Fit (.int .u8) xs → ∃ c : UInt8, xs = [AV.int .u8 (c.toNat : Int)] := fun xs hx => by
    cases hx with
    | @int _ n h1 h2 =>
      have h1' : 0 ≤ n := by simpa [IntKind.min, IntKind.signed, IntKind.bits] using h1
      have h2' : n ≤ 255 := by simpa [IntKind.max, IntKind.signed, IntKind.bits] using h2
      refine ⟨UInt8.ofNat n.toNat, ?_⟩
      have : ((UInt8.ofNat n.toNat).toNat : Int) = n := by
        simp
        omega
      rw [this]
  rcases fit_rows (f := fun c : UInt8 => [AV.int .u8 (c.toNat : Int)]) key h with rfl | ⟨l, rfl⟩
  · exact ⟨none, rfl⟩
  · exact ⟨some l, by rw [flatMap_one]; rfl⟩

def mkD : Nat → Int → Str → Str
  | 0, _, out => out
  | f + 1, k, out => if k ≤ 0 then out else mkD f (k / 10) (UInt8.ofNat (48 + k % 10).toNat :: out)
theorem mkD_done {f : Nat} {k : Int} {out : Str} (h : k ≤ 0) : mkD f k out = out := by
  cases f with
  | zero => rfl
  | succ f => rw [mkD, if_pos h]
theorem mkD_next {f : Nat} {k : Int} {out : Str} (h : 0 < k) : mkD (f + 1) k out = mkD f (k / 10) (UInt8.ofNat (48 + k % 10).toNat :: out) := by
  rw [mkD, if_neg (by omega)]
/-- A mark. -/
def mkT (k : Int) : Str := if k ≤ 0 then [109, 48] else 109 :: mkD 20 k []
def marks (k : Int) (n : Nat) : List Str := (List.range n).map fun i : Nat => mkT (k + (i : Int))
theorem marks_len {k : Int} {n : Nat} : (marks k n).length = n := by simp [marks]
theorem marks_succ {k : Int} {n : Nat} : marks k (n + 1) = marks k n ++ [mkT (k + (n : Int))] := by simp [marks, List.range_succ]
theorem marks_get {k : Int} {n i : Nat} (hi : i < n) : (marks k n).getD i [] = mkT (k + (i : Int)) := by simp [marks, hi]
theorem mk_set {k : Int} {l : List Str} {i : Nat} (hi : i < l.length) : ((marks k i ++ l.drop i).map AV.str).set i (.str (mkT (k + (i : Int)))) = (marks k (i + 1) ++ l.drop (i + 1)).map AV.str := by
  rw [List.drop_eq_getElem_cons hi, marks_succ]
  simp only [List.map_append, List.map_cons, List.append_assoc, List.map_nil, List.cons_append, List.nil_append]
  have := set_last (p := (marks k i).map AV.str) (r := (l.drop (i + 1)).map AV.str) (x := .str l[i]) (y := .str (mkT (k + (i : Int))))
  rw [List.length_map, marks_len] at this
  exact this
def MkI (h h' : H) (b : Nat) (L : List Str) : Prop := h'.length = h.length ∧ (∀ b', b' ≠ b → h'[b']? = h[b']?) ∧ h'.cells b = some (L.map .str)
theorem MkI.put {h h' : H} {b : Nat} {L L2 : List Str} {cs : List AV} (hm : MkI h h' b L) (hc : cs = L2.map .str) : MkI h (wr h' b cs) b L2 := by
  obtain ⟨h1, h2, h3⟩ := hm
  subst hc
  refine ⟨by simp [wr, h1], fun b' hb' => ?_, ?_⟩
  · unfold wr
    rw [List.getElem?_set_ne (Ne.symm hb')]
    exact h2 b' hb'
  · rw [cells_eq]
    unfold wr
    rw [List.getElem?_set_self (cells_lt h3)]
    rfl

def cpTr (t : Tr) : Tr := ⟨cpB t.sh, cpB t.en, t.lab⟩

theorem KyR_same {t : Tr} {p : Str → Bool} {o o' : Option (List Str)} {b b' : Bool} (h : KyR t p (.tup [eS o, .bool b])) (h' : KyR t p (.tup [eS o', .bool b'])) : b' = b ∧ lS o' = lS o := by
  have inj : ∀ {o1 o2 : Option (List Str)}, eS o1 = eS o2 → lS o1 = lS o2 := fun {o1 o2} he => by
    cases o1 <;> cases o2
    · rfl
    · cases he
    · cases he
    · rename_i a c
      injection he with _ he _
      exact List.map_inj_right (fun x y hxy => by injection hxy) |>.1 he
  obtain ⟨o1, b1, e1, h1⟩ := h
  obtain ⟨o2, b2, e2, h2⟩ := h'
  injection e1 with e1
  injection e1 with e1 e3
  injection e3 with e3 _
  injection e3 with e3
  injection e2 with e2
  injection e2 with e2 e4
  injection e4 with e4 _
  injection e4 with e4
  subst e3 e4
  have i1 := inj e1
  have i2 := inj e2
  rw [i1, i2]
  rcases h1 with ⟨rfl, K, k1, k2⟩ | ⟨rfl, k1, k2⟩ <;> rcases h2 with ⟨rfl, K2, k3, k4⟩ | ⟨rfl, k3, k4⟩
  · rw [k1] at k3
    injection k3 with k3
    subst k3
    exact ⟨rfl, k4.trans k2.symm⟩
  · rw [k1] at k3
    cases k3
  · rw [k1] at k3
    cases k3
  · exact ⟨rfl, k4.trans k2.symm⟩
theorem KyR_len {t : Tr} {p : Str → Bool} {o : Option (List Str)} {b : Bool} (h : KyR t p (.tup [eS o, .bool b])) : (lS o).length ≤ 40 := by
  have inj : ∀ {o1 o2 : Option (List Str)}, eS o1 = eS o2 → (lS o1).length = (lS o2).length := fun {o1 o2} he => by
    cases o1 <;> cases o2
    · rfl
    · cases he
    · cases he
    · rename_i a c
      injection he
  obtain ⟨o1, b1, e1, h1⟩ := h
  injection e1 with e1
  injection e1 with e1 _
  rw [inj e1]
  rcases h1 with ⟨_, K, k1, k2⟩ | ⟨_, _, k2⟩
  · rw [k2]
    exact Nat.le_trans (List.length_filter_le _ _) (trV_ok k1).2
  · rw [k2]
    simp
theorem eS_S1 {h : H} {x : AV} {o : Option (List Str)} {G : Nat → Prop} (ho : Ow h [x] [eS o] G) : ∃ B, S1 h 1 x (lS o).length ((lS o).map .str) B ∧ ∀ c ∈ B, G c := by
  rcases eS_ow ho with ⟨rfl, rfl⟩ | ⟨L, b, rfl, rfl, h3, h4⟩
  · exact ⟨[], S1.nil, by simp⟩
  · exact ⟨[b], ⟨by simp, .inr ⟨b, rfl, rfl, h4⟩⟩, by simpa using h3⟩

theorem bft_no {K : List Str} {b : Int} (h : okKeys K = false) : bfV K b = .tup [.agg [.int .i64 0, .nils, .nils], .bool false] := by
  unfold bfV
  rw [if_neg (by simp [h])]
theorem slc_eS_mid {o : Option (List Str)} {i j : Nat} (hij : i ≤ j) (hj : j ≤ (lS o).length) : ∃ o', slcA 1 (some (.int .i64 (i : Int))) (some (.int .i64 (j : Int))) (eS o) = some (eS o') ∧ lS o' = ((lS o).drop i).take (j - i) := by
  cases o with
  | none =>
    simp [lS] at hj
    subst hj
    have : i = 0 := by omega
    subst this
    exact ⟨none, rfl, rfl⟩
  | some l =>
    have h3 : (j : Int) ≤ l.length := by simp only [lS] at hj; omega
    refine ⟨some ((l.drop i).take (j - i)), ?_, rfl⟩
    simp only [eS, slcA_ro, bndA_int (Int.natCast_nonneg j) h3, bndA_int (Int.natCast_nonneg i) (Int.ofNat_le.2 hij), Option.bind_some, Int.toNat_natCast]
    congr 2
    · rw [Nat.mul_one, Nat.mul_one, ← List.map_drop, ← List.map_take]
    · simp only [lS] at hj
      rw [List.length_take, List.length_drop]
      omega
theorem KyR_take {t : Tr} {K : List Str} {p : Str → Bool} {v : AV} (ht : trV t = some K) (h : KyR t p v) : ∃ o, v = .tup [eS o, .bool true] ∧ lS o = K.filter p := by
  obtain ⟨o, b, rfl, h⟩ := h
  rcases h with ⟨rfl, K2, h2, h3⟩ | ⟨_, h2, _⟩
  · rw [ht] at h2
    injection h2 with h2
    subst h2
    exact ⟨o, rfl, h3⟩
  · rw [ht] at h2
    cases h2
theorem c_impl_BuildTrie_n (o : Option (List Str)) (hK : okKeys (lS o) = false) : Fn Tryz.prog 8 [eS o] (· = .tup [.agg [.int .i64 0, .nils, .int .i64 0, .nils, .str []], .bool false]) := by
  refine Fn.of (free_tup (free_cons_ (free_agg (free_cons_ free_int (free_cons_ free_nils (free_cons_ free_int (free_cons_ free_nils (free_cons_ free_str free_nil_)))))) (free_cons_ free_bool free_nil_))) fun h => ?_
  refine enter (by kernel_rfl) e8 (by kernel_rfl) rfl fun hok => ?_
  simp only [r8, initEnv_1]
  have hAK := c_impl_AreKeys o
  rw [hK] at hAK
  have hb0 : H.cells (h ++ [some (.cells [.int .i64 0, .nils, .int .i64 0, .nils, .str []])]) h.length = some [.int .i64 0, .nils, .int .i64 0, .nils, .str []] := by rw [cells_h0]; rfl
  have hpm : (h.length ≤ h.length) = True := by simp
  have hw := fun cs => cells_wr2 (cells_lt hb0) (cs := cs)
  (try (simp (disch := first | omega | (simp <;> omega) | fail) only [push_cast, ↓reduceIte, Nat.reduceEqDiff, Nat.reduceAdd, Nat.reduceMul, Nat.reduceSub, Nat.reduceLT, Int.reduceToNat]))
  refine hAK.call ?_
  (try (simp (disch := first | omega | (simp <;> omega) | fail) only [push_cast, ↓reduceIte, Nat.reduceEqDiff, Nat.reduceAdd, Nat.reduceMul, Nat.reduceSub, Nat.reduceLT, Int.reduceToNat, hb0, hpm, hw]))
  all_goals (try rfl)
def sh_FnTrieAndFrontAgree : List Sh := [.sl (.int .u8) 1, .sl (.int .u8) 1]
set_option maxHeartbeats 4000000 in
theorem law_FnTrieAndFrontAgree (ys : List AV) (hy : ArgsFit sh_FnTrieAndFrontAgree ys) : Call Tryz.prog 3 ys [] Nowhere (fun x _ => x = .bool true) := by
  obtain ⟨x1, y1, rfl, h1, hy⟩ := argsFit_cons hy
  obtain ⟨x2, y2, rfl, h2, hy⟩ := argsFit_cons hy
  obtain rfl := argsFit_nil hy
  obtain ⟨code, hce⟩ := fit_bytes h1
  obtain ⟨more, hme⟩ := fit_bytes h2
  subst hce hme
  refine (?_ : ∀ h, Call Tryz.prog 3 [eU code, eU more] h Nowhere (fun x _ => x = .bool true)) []
  intro h
  refine enter (by kernel_rfl) e3 (by kernel_rfl) rfl fun hok => ?_
  simp only [r3, initEnv_2]
  have hl1 := ok_eU (okV_0 hok)
  have hl2 := ok_eU (okV_1 hok)
  generalize hSL : RCode.seq (.reg (⟨some 48, _, _⟩ :: _)) _ = SL
  generalize hST : RCode.seq (.reg (⟨some 185, _, _⟩ :: _)) _ = ST
  generalize hRA : RCode.seq (.reg (⟨some 225, _, _⟩ :: _)) _ = RA
  generalize hRB : RCode.reg (⟨some 232, _, _⟩ :: _) = RB
  generalize hRW : RCode.reg (⟨some 245, _, _⟩ :: _) = RW
  (try (simp (disch := first | omega | (simp <;> omega) | fail) only [push_cast, ↓reduceIte, Nat.reduceEqDiff, Nat.reduceAdd, Nat.reduceMul, Nat.reduceSub, Nat.reduceLT, Int.reduceToNat]))
  refine (c_laws_big code more hl1).call ?_
  cases hb : (decide (1048576 < ((lU code).length : Int)) || decide (1048576 - ((lU code).length : Int) < ((lU more).length : Int)))
  · simp only [Bool.or_eq_false_iff, decide_eq_false_iff_not] at hb
    (try (simp (disch := first | omega | (simp <;> omega) | fail) only [push_cast, ↓reduceIte, Nat.reduceEqDiff, Nat.reduceAdd, Nat.reduceMul, Nat.reduceSub, Nat.reduceLT, Int.reduceToNat]))
    refine (c_spec_DrawBuildFront code).use fun x hx => ?_
    obtain ⟨o, b, rfl, hol, hb1, hb2⟩ := hx
    (try (simp (disch := first | omega | (simp <;> omega) | fail) only [push_cast, ↓reduceIte, Nat.reduceEqDiff, Nat.reduceAdd, Nat.reduceMul, Nat.reduceSub, Nat.reduceLT, Int.reduceToNat]))
    refine (c_spec_DrawTrieRank more).use fun x hx => ?_
    obtain ⟨t0, s0, rfl, hs0⟩ := hx
    obtain ⟨⟨ss, sw⟩, ⟨es, ew⟩, lab⟩ := t0
    (try (simp (disch := first | omega | (simp <;> omega) | fail) only [push_cast, ↓reduceIte, Nat.reduceEqDiff, Nat.reduceAdd, Nat.reduceMul, Nat.reduceSub, Nat.reduceLT, Int.reduceToNat]))
    obtain ⟨G0, hG0⟩ : ∃ G0, G0 = h ++ [some (.cells [.int .i64 ss, eI sw, .int .i64 es, eI ew, .str lab])] := ⟨_, rfl⟩
    have hG0l : G0.length = h.length + 1 := by rw [hG0]; simp
    rw [← hG0]
    refine T_cut (fun e g => ∃ s, Pins e [(1, eU more), (5, eS o), (6, .int .i64 b), (8, .str s)] ∧ (G0 = g ∧ (okKeys (lS o) = true → s.length ≤ 30))) ?_ ?_
    · rw [← hSL]
      clear hSL hST hRA hRB hRW
      have hfin : ∀ s : Str, (okKeys (lS o) = true → s.length ≤ 30) → (G0 = G0 ∧ (okKeys (lS o) = true → s.length ≤ 30)) := fun s hs => ⟨rfl, hs⟩
      have hf0 : okKeys (lS o) = true → s0.length ≤ 30 := fun _ => hs0
      by_cases h0 : 0 < (lS o).length
      · have e0 : (0 < ((lS o).length : Int)) = True := eq_true (by omega)
        have em : ((lU more).length : Int) % 3 = (((lU more).length % 3 : Nat) : Int) := by simp
        by_cases h3 : (lU more).length % 3 = 0
        · have e3 : (0 < ((lU more).length : Int) % 3) = False := eq_false (by omega)
          (try (simp (disch := first | omega | (simp <;> omega) | fail) only [push_cast, ↓reduceIte, Nat.reduceEqDiff, Nat.reduceAdd, Nat.reduceMul, Nat.reduceSub, Nat.reduceLT, Int.reduceToNat, e0, e3]))
          all_goals (try exact ⟨_, rfl, hf0⟩)
          done
        · have e3 : (0 < ((lU more).length : Int) % 3) = True := eq_true (by omega)
          have e4 : (((lS o).length : Int) = 0) = False := eq_false (by omega)
          obtain ⟨m, hm⟩ : ∃ m : Nat, (lU more).length % (lS o).length = m := ⟨_, rfl⟩
          have hml : m < (lS o).length := by
            rw [← hm]
            exact Nat.mod_lt _ h0
          have hmN : ((lU more).length : Int) % ((lS o).length : Int) = (m : Int) := by
            rw [← hm]
            simp
          obtain ⟨y, hy⟩ : ∃ y, y = (lS o).getD m [] := ⟨_, rfl⟩
          have hgd : (lS o)[m]?.getD [] = y := by rw [hy, List.getD_eq_getElem?_getD]
          have hyf : okKeys (lS o) = true → y.length ≤ 30 := fun hK => by
            have := (okKey_len ((okKeys_all hK).1 y (by rw [hy]; simp [hml]))).2
            omega
          have hyf1 : okKeys (lS o) = true → (y.take 1).length ≤ 30 := fun hK => by
            rw [List.length_take]
            omega
          by_cases hyn : y = []
          · (try (simp (disch := first | omega | (simp <;> omega) | fail) only [push_cast, ↓reduceIte, Nat.reduceEqDiff, Nat.reduceAdd, Nat.reduceMul, Nat.reduceSub, Nat.reduceLT, Int.reduceToNat, e0, e3, e4, hmN, hgd, ← hy, hyn]))
            all_goals (try exact ⟨_, rfl, fun _ => by simp⟩)
            done
          · have hy1 : 1 ≤ y.length := List.length_pos_iff.2 hyn
            have hy2 : (0 < y.length) := by omega
            by_cases h2 : (lU more).length % 2 = 1
            · have e5 : (((lU more).length : Int) % 2 = 1) = True := eq_true (by omega)
              (try (simp (disch := first | omega | (simp <;> omega) | fail) only [push_cast, ↓reduceIte, Nat.reduceEqDiff, Nat.reduceAdd, Nat.reduceMul, Nat.reduceSub, Nat.reduceLT, Int.reduceToNat, e0, e3, e4, hmN, hgd, ← hy, hyn, e5]))
              all_goals (try exact ⟨_, rfl, hyf1⟩)
              done
            · have e5 : (((lU more).length : Int) % 2 = 1) = False := eq_false (by omega)
              (try (simp (disch := first | omega | (simp <;> omega) | fail) only [push_cast, ↓reduceIte, Nat.reduceEqDiff, Nat.reduceAdd, Nat.reduceMul, Nat.reduceSub, Nat.reduceLT, Int.reduceToNat, e0, e3, e4, hmN, hgd, ← hy, hyn, e5]))
              all_goals (try exact ⟨_, rfl, hyf⟩)
              done
      · have e0 : (0 < ((lS o).length : Int)) = False := eq_false (by omega)
        (try (simp (disch := first | omega | (simp <;> omega) | fail) only [push_cast, ↓reduceIte, Nat.reduceEqDiff, Nat.reduceAdd, Nat.reduceMul, Nat.reduceSub, Nat.reduceLT, Int.reduceToNat, e0]))
        all_goals (try exact ⟨_, rfl, hf0⟩)
        done
    rintro e g ⟨s, hp, rfl, hs⟩
    refine T_pins hp fun e => ?_
    have hBF := c_impl_BuildFront o b
    have hSB := c_spec_BuildTrie o
    have hps := fun T => c_laws_pSameTrie T T
    cases hK : okKeys (lS o)
    · have hBT := c_impl_BuildTrie_n o hK
      rw [bft_no hK] at hBF
      unfold btV at hSB
      rw [hK] at hSB
      simp only [Bool.false_eq_true, if_false] at hSB
      have hps0 := hps ⟨⟨0, none⟩, ⟨0, none⟩, []⟩
      rw [show sameT ⟨⟨0, none⟩, ⟨0, none⟩, []⟩ ⟨⟨0, none⟩, ⟨0, none⟩, []⟩ = true from rfl] at hps0
      have ez2 : eTr ⟨⟨0, none⟩, ⟨0, none⟩, []⟩ = .agg [.int .i64 0, .nils, .int .i64 0, .nils, .str []] := rfl
      rw [ez2] at hSB hps0
      (try (simp (disch := first | omega | (simp <;> omega) | fail) only [push_cast, ↓reduceIte, Nat.reduceEqDiff, Nat.reduceAdd, Nat.reduceMul, Nat.reduceSub, Nat.reduceLT, Int.reduceToNat]))
      refine hBT.call ?_
      (try (simp (disch := first | omega | (simp <;> omega) | fail) only [push_cast, ↓reduceIte, Nat.reduceEqDiff, Nat.reduceAdd, Nat.reduceMul, Nat.reduceSub, Nat.reduceLT, Int.reduceToNat]))
      refine hBF.call ?_
      (try (simp (disch := first | omega | (simp <;> omega) | fail) only [push_cast, ↓reduceIte, Nat.reduceEqDiff, Nat.reduceAdd, Nat.reduceMul, Nat.reduceSub, Nat.reduceLT, Int.reduceToNat]))
      refine hSB.call ?_
      (try (simp (disch := first | omega | (simp <;> omega) | fail) only [push_cast, ↓reduceIte, Nat.reduceEqDiff, Nat.reduceAdd, Nat.reduceMul, Nat.reduceSub, Nat.reduceLT, Int.reduceToNat]))
      refine hps0.call ?_
      (try (simp (disch := first | omega | (simp <;> omega) | fail) only [push_cast, ↓reduceIte, Nat.reduceEqDiff, Nat.reduceAdd, Nat.reduceMul, Nat.reduceSub, Nat.reduceLT, Int.reduceToNat]))
      done
    have hs := hs hK
    have hKA := okKeys_all hK
    have htr := trV_of (tK_ok hK)
    unfold btV at hSB
    rw [hK] at hSB
    simp only [if_true] at hSB
    have hBT := (c_impl_BuildTrie_o o hK).fn
    have hTH := c_impl_TrieHas (tK (lS o))
    have hTR := c_impl_TrieRank (tK (lS o)) s
    have hKP := (c_impl_KeysWithPrefix_o (tK (lS o)) s (by omega)).fn
    have hLK := c_impl_LongestKey (tK (lS o)) (lS o) s (by omega) htr hK
    have hha : ∀ x, haD (tK (lS o)) x = .tup [.bool (decide (x ∈ lS o)), .bool true] := fun x => by
      unfold haD
      rw [htr]
    have hrv : rkV (tK (lS o)) s = .tup [.int .i64 (rkS (lS o) s), .bool true] := by
      unfold rkV
      rw [htr]
    rw [hrv] at hTR
    have hkr := fun v => @KyR_take (tK (lS o)) (lS o) (pfB s) v htr
    have hpsT := hps (tK (lS o))
    rw [(tK_ok hK).same] at hpsT
    clear hrv htr hps
    by_cases hbr : 1 ≤ b ∧ b ≤ 16
    · obtain ⟨n, rfl⟩ : ∃ n : Nat, b = (n : Int) := ⟨b.toNat, by omega⟩
      have hbv : bfV (lS o) (n : Int) = .tup [eFr n (lS o), .bool true] := by
        unfold bfV
        rw [if_pos ⟨hK, hbr⟩]
        simp
      rw [hbv] at hBF
      have hFH := c_impl_FrontHas n (lS o) s hK (by omega) (by omega)
      have hFR := c_impl_FrontRank n (lS o) s hK (by omega) (by omega)
      have hFK := fun i hi => c_impl_FrontKey n (lS o) i hK (by omega) (by omega) hi
      have efr : eFr n (lS o) = .agg [.int .i64 n, eI (oIn (keF (lS o) n (lS o).length)), eS (oSn (taF (lS o) n (lS o).length))] := rfl
      rw [efr] at hBF hFH hFR
      simp only [efr] at hFK
      clear efr hbv
      generalize oIn (keF (lS o) n (lS o).length) = fi at *
      generalize oSn (taF (lS o) n (lS o).length) = fs at *
      simp only [hha] at hTH
      clear hha
      generalize tK (lS o) = T at *
      obtain ⟨⟨ts, tw⟩, ⟨us, uw⟩, tl⟩ := T
      have hrl := @rk_le (lS o) s
      obtain ⟨pp1, pp2, pp3⟩ := @pre_piece (lS o) s hKA.2.1
      have hrank := @has_rank (lS o) s hKA.2.1
      obtain ⟨lg1, lg2, lg3⟩ := @lg_all s (lS o)
      have lgl := (pfB_iff.1 lg2).length_le
      (try (simp (disch := first | omega | (simp <;> omega) | fail) only [push_cast, ↓reduceIte, Nat.reduceEqDiff, Nat.reduceAdd, Nat.reduceMul, Nat.reduceSub, Nat.reduceLT, Int.reduceToNat]))
      refine hBT.call ?_
      (try (simp (disch := first | omega | (simp <;> omega) | fail) only [push_cast, ↓reduceIte, Nat.reduceEqDiff, Nat.reduceAdd, Nat.reduceMul, Nat.reduceSub, Nat.reduceLT, Int.reduceToNat]))
      refine hBF.call ?_
      (try (simp (disch := first | omega | (simp <;> omega) | fail) only [push_cast, ↓reduceIte, Nat.reduceEqDiff, Nat.reduceAdd, Nat.reduceMul, Nat.reduceSub, Nat.reduceLT, Int.reduceToNat]))
      refine hSB.call ?_
      (try (simp (disch := first | omega | (simp <;> omega) | fail) only [push_cast, ↓reduceIte, Nat.reduceEqDiff, Nat.reduceAdd, Nat.reduceMul, Nat.reduceSub, Nat.reduceLT, Int.reduceToNat]))
      refine hpsT.call ?_
      (try (simp (disch := first | omega | (simp <;> omega) | fail) only [push_cast, ↓reduceIte, Nat.reduceEqDiff, Nat.reduceAdd, Nat.reduceMul, Nat.reduceSub, Nat.reduceLT, Int.reduceToNat]))
      refine (hTH s).call ?_
      (try (simp (disch := first | omega | (simp <;> omega) | fail) only [push_cast, ↓reduceIte, Nat.reduceEqDiff, Nat.reduceAdd, Nat.reduceMul, Nat.reduceSub, Nat.reduceLT, Int.reduceToNat]))
      refine hFH.call ?_
      (try (simp (disch := first | omega | (simp <;> omega) | fail) only [push_cast, ↓reduceIte, Nat.reduceEqDiff, Nat.reduceAdd, Nat.reduceMul, Nat.reduceSub, Nat.reduceLT, Int.reduceToNat]))
      refine hTR.call ?_
      (try (simp (disch := first | omega | (simp <;> omega) | fail) only [push_cast, ↓reduceIte, Nat.reduceEqDiff, Nat.reduceAdd, Nat.reduceMul, Nat.reduceSub, Nat.reduceLT, Int.reduceToNat]))
      refine hFR.call ?_
      (try (simp (disch := first | omega | (simp <;> omega) | fail) only [push_cast, ↓reduceIte, Nat.reduceEqDiff, Nat.reduceAdd, Nat.reduceMul, Nat.reduceSub, Nat.reduceLT, Int.reduceToNat]))
      refine hKP.use fun x hx => ?_
      obtain ⟨o2, rfl, ho2⟩ := hkr _ hx
      have hpl : (lS o2).length = ((lS o).filter (pfB s)).length := by rw [ho2]
      rw [← hpl] at pp1 pp2 pp3
      clear hx hkr
      (try (simp (disch := first | omega | (simp <;> omega) | fail) only [push_cast, ↓reduceIte, Nat.reduceEqDiff, Nat.reduceAdd, Nat.reduceMul, Nat.reduceSub, Nat.reduceLT, Int.reduceToNat]))
      refine hLK.call ?_
      have f1 : (((lS o).length : Int) < (rkS (lS o) s : Int)) = False := eq_false (by omega)
      have f2 : (((lS o).length : Int) < (rkS (lS o) s : Int) + ((lS o2).length : Int)) = False := eq_false (by omega)
      (try (simp (disch := first | omega | (simp <;> omega) | fail) only [push_cast, ↓reduceIte, Nat.reduceEqDiff, Nat.reduceAdd, Nat.reduceMul, Nat.reduceSub, Nat.reduceLT, Int.reduceToNat, f1, f2]))
      have hG1 : ∃ G1 : H, G1 = G0 ++ [some (.cells [.int .i64 ts, eI tw, .int .i64 us, eI uw, .str tl]), some (.cells [.int .i64 n, eI fi, eS fs]), some (.cells [.int .i64 ts, eI tw, .int .i64 us, eI uw, .str tl])] := ⟨_, rfl⟩
      obtain ⟨G1, hG1⟩ := hG1
      have hG1l : G1.length = h.length + 4 := by rw [hG1]; simp; omega
      have c9 : G1.cells G0.length = some [.int .i64 ts, eI tw, .int .i64 us, eI uw, .str tl] := by rw [hG1, cells_h0]; rfl
      have c11 : G1.cells (G0.length + 1) = some [.int .i64 n, eI fi, eS fs] := by rw [hG1, cells_hk]; rfl
      rw [← hG1]
      refine T_cut (fun e g => Pins e [(5, eS o), (8, .str s), (9, .adr G0.length 0), (11, .adr (G0.length + 1) 0), (19, .int .i64 (rkS (lS o) s)), (23, eS o2), (25, .str (lgS s (lS o))), (26, .bool (decide (lgS s (lS o) ≠ [])))] ∧ G1 = g) ?_ ?_
      · rw [← hST]
        clear hST hRA hRB hRW
        obtain ⟨o3, hsl, ho3⟩ := @slc_eS_mid o (rkS (lS o) s) (rkS (lS o) s + (lS o2).length) (Nat.le_add_right _ _) pp1
        have ho23 : lS o2 = lS o3 := by
          rw [ho3, Nat.add_sub_cancel_left, ← pp2, ho2]
        have hps2 := c_laws_pSameTexts o2 o3 ho23
        have hadd : (rkS (lS o) s : Int) + ((lS o2).length : Int) = ((rkS (lS o) s + (lS o2).length : Nat) : Int) := by simp
        have hso : slcA 1 (some (.int .i64 (rkS (lS o) s : Int))) (some (.int .i64 ((rkS (lS o) s : Int) + ((lS o2).length : Int)))) (eS o) = some (eS o3) := by rw [hadd]; exact hsl
        have hfound : s ∈ lS o → decide (lgS s (lS o) ≠ []) = true := fun hsK => decide_eq_true fun h5 => by
          obtain ⟨j, hj, hjs⟩ := List.mem_iff_getElem.1 hsK
          have hg : (lS o).getD j [] = s := by rw [List.getD_eq_getElem?_getD, List.getElem?_eq_getElem hj]; exact hjs
          have h6 := lg3 j hj (by rw [hg]; exact pfB_iff.2 (List.prefix_refl s))
          rw [hg, h5] at h6
          have h7 := (okKey_len (hKA.1 s hsK)).1
          simp only [List.length_nil] at h6
          omega
        by_cases hn : rkS (lS o) s < (lS o).length
        · have e1 : ((rkS (lS o) s : Int) < ((lS o).length : Int)) = True := eq_true (by omega)
          obtain ⟨y, hy⟩ : ∃ y, y = (lS o).getD (rkS (lS o) s) [] := ⟨_, rfl⟩
          have hgd : (lS o)[rkS (lS o) s]?.getD [] = y := by rw [hy, List.getD_eq_getElem?_getD]
          by_cases hys : y = s
          · have hsK : s ∈ lS o := hrank.2 ⟨hn, hy.symm.trans hys⟩
            have e2 := hfound hsK
            (try (simp (disch := first | omega | (simp <;> omega) | fail) only [push_cast, ↓reduceIte, Nat.reduceEqDiff, Nat.reduceAdd, Nat.reduceMul, Nat.reduceSub, Nat.reduceLT, Int.reduceToNat, e1, hgd, ← hy, hys, hsK, e2, hso]))
            refine hps2.call ?_
            (try (simp (disch := first | omega | (simp <;> omega) | fail) only [push_cast, ↓reduceIte, Nat.reduceEqDiff, Nat.reduceAdd, Nat.reduceMul, Nat.reduceSub, Nat.reduceLT, Int.reduceToNat]))
            done
          · have hsK : s ∉ lS o := fun h5 => hys (hy.trans (hrank.1 h5).2)
            (try (simp (disch := first | omega | (simp <;> omega) | fail) only [push_cast, ↓reduceIte, Nat.reduceEqDiff, Nat.reduceAdd, Nat.reduceMul, Nat.reduceSub, Nat.reduceLT, Int.reduceToNat, e1, hgd, ← hy, hys, hsK, hso]))
            refine hps2.call ?_
            (try (simp (disch := first | omega | (simp <;> omega) | fail) only [push_cast, ↓reduceIte, Nat.reduceEqDiff, Nat.reduceAdd, Nat.reduceMul, Nat.reduceSub, Nat.reduceLT, Int.reduceToNat]))
            done
        · have e1 : ((rkS (lS o) s : Int) < ((lS o).length : Int)) = False := eq_false (by omega)
          have hsK : s ∉ lS o := fun h5 => hn (hrank.1 h5).1
          (try (simp (disch := first | omega | (simp <;> omega) | fail) only [push_cast, ↓reduceIte, Nat.reduceEqDiff, Nat.reduceAdd, Nat.reduceMul, Nat.reduceSub, Nat.reduceLT, Int.reduceToNat, e1, hsK, hso]))
          refine hps2.call ?_
          (try (simp (disch := first | omega | (simp <;> omega) | fail) only [push_cast, ↓reduceIte, Nat.reduceEqDiff, Nat.reduceAdd, Nat.reduceMul, Nat.reduceSub, Nat.reduceLT, Int.reduceToNat]))
          done
      rintro e g ⟨hp, rfl⟩
      refine T_pins hp fun e => ?_
      (try (simp (disch := first | omega | (simp <;> omega) | fail) only [push_cast, ↓reduceIte, Nat.reduceEqDiff, Nat.reduceAdd, Nat.reduceMul, Nat.reduceSub, Nat.reduceLT, Int.reduceToNat]))
      clear hST
      refine T_for (lS o).length (fun k e h' => Pins e [(5, eS o), (8, .str s), (9, .adr G0.length 0), (11, .adr (G0.length + 1) 0), (19, .int .i64 (rkS (lS o) s)), (23, eS o2), (25, .str (lgS s (lS o))), (26, .bool (decide (lgS s (lS o) ≠ []))), (218, eS o), (219, .int .i64 (lS o).length), (220, .int .i64 k)] ∧ G1 = h') ?_ ?_
      · (try (simp (disch := first | omega | (simp <;> omega) | fail) only [push_cast, ↓reduceIte, Nat.reduceEqDiff, Nat.reduceAdd, Nat.reduceMul, Nat.reduceSub, Nat.reduceLT, Int.reduceToNat]))
        done
      rintro k e h' hk ⟨hp, rfl⟩
      refine T_pins hp fun e => ?_
      (try (simp (disch := first | omega | (simp <;> omega) | fail) only [push_cast, ↓reduceIte, Nat.reduceEqDiff, Nat.reduceAdd, Nat.reduceMul, Nat.reduceSub, Nat.reduceLT, Int.reduceToNat]))
      first | refine goC_split (fun hc => ?_) (fun hc => ?_) | refine cnd_split (fun hc => ?_) (fun hc => ?_)
      · (try (simp only [decide_eq_true_eq, decide_eq_false_iff_not, Bool.not_eq_true', Bool.not_eq_false', Bool.and_eq_true, Bool.or_eq_true, Int.not_lt, Int.not_le] at hc)); (try (simp (disch := first | omega | (simp <;> omega) | fail) only [push_cast, ↓reduceIte, Nat.reduceEqDiff, Nat.reduceAdd, Nat.reduceMul, Nat.reduceSub, Nat.reduceLT, Int.reduceToNat]))
        have hk2 : k < (lS o).length := by omega
        obtain ⟨y, hy⟩ : ∃ y, y = (lS o).getD k [] := ⟨_, rfl⟩
        have hgd : (lS o)[k]?.getD [] = y := by rw [hy, List.getD_eq_getElem?_getD]
        have hyK : y ∈ lS o := by rw [hy]; simp [hk2]
        have hyl := okKey_len (hKA.1 y hyK)
        have hrk : Op.bytesLess y s = decide (k < rkS (lS o) s) := by
          have := @rk_iff (lS o) s hKA.2.1 k hk2
          rw [← hy] at this
          rw [Bool.eq_iff_iff, decide_eq_true_iff]
          exact this
        have hpp := pp3 k hk2
        have hlg := lg3 k hk2
        have hfk := hFK k hk2
        rw [← hy] at hpp hlg hfk
        have hkn : ((k : Int) < (rkS (lS o) s : Int)) = (k < rkS (lS o) s) := by simp
        (try (simp (disch := first | omega | (simp <;> omega) | fail) only [push_cast, ↓reduceIte, Nat.reduceEqDiff, Nat.reduceAdd, Nat.reduceMul, Nat.reduceSub, Nat.reduceLT, Int.reduceToNat, hgd, ← hy]))
        refine T_cut (fun e g => Pins e [(5, eS o), (8, .str s), (9, .adr G0.length 0), (11, .adr (G0.length + 1) 0), (19, .int .i64 (rkS (lS o) s)), (23, eS o2), (25, .str (lgS s (lS o))), (26, .bool (decide (lgS s (lS o) ≠ []))), (218, eS o), (219, .int .i64 (lS o).length), (220, .int .i64 k), (27, .int .i64 k), (28, .str y)] ∧ G1 = g) ?_ ?_
        · rw [← hRA]
          clear hRA hRB hRW
          by_cases hkl : k < rkS (lS o) s
          · have e1 : ((k : Int) < (rkS (lS o) s : Int)) = True := eq_true (by omega)
            rw [decide_eq_true hkl] at hrk
            (try (simp (disch := first | omega | (simp <;> omega) | fail) only [push_cast, ↓reduceIte, Nat.reduceEqDiff, Nat.reduceAdd, Nat.reduceMul, Nat.reduceSub, Nat.reduceLT, Int.reduceToNat, e1, hrk]))
            done
          · have e1 : ((k : Int) < (rkS (lS o) s : Int)) = False := eq_false (by omega)
            rw [decide_eq_false hkl] at hrk
            (try (simp (disch := first | omega | (simp <;> omega) | fail) only [push_cast, ↓reduceIte, Nat.reduceEqDiff, Nat.reduceAdd, Nat.reduceMul, Nat.reduceSub, Nat.reduceLT, Int.reduceToNat, e1, hrk]))
            done
        rintro e g ⟨hp, rfl⟩
        refine T_pins hp fun e => ?_
        (try (simp (disch := first | omega | (simp <;> omega) | fail) only [push_cast, ↓reduceIte, Nat.reduceEqDiff, Nat.reduceAdd, Nat.reduceMul, Nat.reduceSub, Nat.reduceLT, Int.reduceToNat]))
        refine T_cut (fun e g => Pins e [(5, eS o), (8, .str s), (9, .adr G0.length 0), (11, .adr (G0.length + 1) 0), (19, .int .i64 (rkS (lS o) s)), (23, eS o2), (25, .str (lgS s (lS o))), (26, .bool (decide (lgS s (lS o) ≠ []))), (218, eS o), (219, .int .i64 (lS o).length), (220, .int .i64 k), (27, .int .i64 k), (28, .str y), (29, .bool (pfB s y))] ∧ G1 = g) ?_ ?_
        · rw [← hRB]
          clear hRA hRB hRW
          have hpf : pfB s y = (decide (s.length ≤ y.length) && decide (y.take s.length = s)) := rfl
          by_cases a1 : s.length ≤ y.length
          · have e1 : ((s.length : Int) ≤ (y.length : Int)) = True := eq_true (by omega)
            have e3 : (y.drop 0).take (s.length - 0) = y.take s.length := by simp
            by_cases a2 : y.take s.length = s
            · rw [decide_eq_true a1, decide_eq_true a2] at hpf
              (try (simp (disch := first | omega | (simp <;> omega) | fail) only [push_cast, ↓reduceIte, Nat.reduceEqDiff, Nat.reduceAdd, Nat.reduceMul, Nat.reduceSub, Nat.reduceLT, Int.reduceToNat, e1, e3, a2, hpf]))
              all_goals (try rw [hpf])
              done
            · rw [decide_eq_true a1, decide_eq_false a2] at hpf
              (try (simp (disch := first | omega | (simp <;> omega) | fail) only [push_cast, ↓reduceIte, Nat.reduceEqDiff, Nat.reduceAdd, Nat.reduceMul, Nat.reduceSub, Nat.reduceLT, Int.reduceToNat, e1, e3, a2, hpf]))
              all_goals (try rw [hpf])
              done
          · have e1 : ((s.length : Int) ≤ (y.length : Int)) = False := eq_false (by omega)
            rw [decide_eq_false a1] at hpf
            (try (simp (disch := first | omega | (simp <;> omega) | fail) only [push_cast, ↓reduceIte, Nat.reduceEqDiff, Nat.reduceAdd, Nat.reduceMul, Nat.reduceSub, Nat.reduceLT, Int.reduceToNat, e1, hpf]))
            all_goals (try rw [hpf])
            done
        rintro e g ⟨hp, rfl⟩
        refine T_pins hp fun e => ?_
        (try (simp (disch := first | omega | (simp <;> omega) | fail) only [push_cast, ↓reduceIte, Nat.reduceEqDiff, Nat.reduceAdd, Nat.reduceMul, Nat.reduceSub, Nat.reduceLT, Int.reduceToNat]))
        refine T_cut (fun e g => Pins e [(5, eS o), (8, .str s), (9, .adr G0.length 0), (11, .adr (G0.length + 1) 0), (19, .int .i64 (rkS (lS o) s)), (23, eS o2), (25, .str (lgS s (lS o))), (26, .bool (decide (lgS s (lS o) ≠ []))), (218, eS o), (219, .int .i64 (lS o).length), (220, .int .i64 k), (27, .int .i64 k), (28, .str y), (29, .bool (pfB s y)), (30, .bool (pfB y s))] ∧ G1 = g) ?_ ?_
        · rw [← hRW]
          clear hRA hRB hRW
          have hpf : pfB y s = (decide (y.length ≤ s.length) && decide (s.take y.length = y)) := rfl
          by_cases a1 : y.length ≤ s.length
          · have e1 : ((y.length : Int) ≤ (s.length : Int)) = True := eq_true (by omega)
            have e3 : (s.drop 0).take (y.length - 0) = s.take y.length := by simp
            by_cases a2 : s.take y.length = y
            · rw [decide_eq_true a1, decide_eq_true a2] at hpf
              (try (simp (disch := first | omega | (simp <;> omega) | fail) only [push_cast, ↓reduceIte, Nat.reduceEqDiff, Nat.reduceAdd, Nat.reduceMul, Nat.reduceSub, Nat.reduceLT, Int.reduceToNat, e1, e3, a2, hpf]))
              all_goals (try rw [hpf])
              done
            · rw [decide_eq_true a1, decide_eq_false a2] at hpf
              (try (simp (disch := first | omega | (simp <;> omega) | fail) only [push_cast, ↓reduceIte, Nat.reduceEqDiff, Nat.reduceAdd, Nat.reduceMul, Nat.reduceSub, Nat.reduceLT, Int.reduceToNat, e1, e3, a2, hpf]))
              all_goals (try rw [hpf])
              done
          · have e1 : ((y.length : Int) ≤ (s.length : Int)) = False := eq_false (by omega)
            rw [decide_eq_false a1] at hpf
            (try (simp (disch := first | omega | (simp <;> omega) | fail) only [push_cast, ↓reduceIte, Nat.reduceEqDiff, Nat.reduceAdd, Nat.reduceMul, Nat.reduceSub, Nat.reduceLT, Int.reduceToNat, e1, hpf]))
            all_goals (try rw [hpf])
            done
        rintro e g ⟨hp, rfl⟩
        refine T_pins hp fun e => ?_
        clear hRA hRB hRW
        have hcon : pfB y s = true → decide (lgS s (lS o) ≠ []) = true ∧ (((lgS s (lS o)).length : Int) < (y.length : Int)) = False := fun h5 => by
          have h6 := hlg h5
          refine ⟨decide_eq_true fun h7 => ?_, eq_false (by omega)⟩
          rw [h7] at h6
          simp only [List.length_nil] at h6
          omega
        have hback : ∀ (Q : Prop), (pfB y s = false → Q) → (decide (lgS s (lS o) ≠ []) = true → (((lgS s (lS o)).length : Int) < (y.length : Int)) = False → pfB y s = true → Q) → Q := fun Q q1 q2 => by
          cases hw : pfB y s
          · exact q1 hw
          · exact q2 (hcon hw).1 (hcon hw).2 hw
        cases hpb : pfB s y
        · have hno : ¬ (rkS (lS o) s ≤ k ∧ k < rkS (lS o) s + (lS o2).length) := fun h5 => by
            have := hpp.2 h5
            rw [hpb] at this
            cases this
          by_cases h6 : rkS (lS o) s ≤ k
          · have e1 : ((rkS (lS o) s : Int) ≤ (k : Int)) = True := eq_true (by omega)
            have e2 : ((k : Int) < (rkS (lS o) s : Int) + ((lS o2).length : Int)) = False := eq_false (by omega)
            refine hback _ (fun hw => ?_) fun w1 w2 w3 => ?_
            · rw [hw]
              (try (simp (disch := first | omega | (simp <;> omega) | fail) only [push_cast, ↓reduceIte, Nat.reduceEqDiff, Nat.reduceAdd, Nat.reduceMul, Nat.reduceSub, Nat.reduceLT, Int.reduceToNat, e1, e2, c11]))
              refine hfk.call ?_
              (try (simp (disch := first | omega | (simp <;> omega) | fail) only [push_cast, ↓reduceIte, Nat.reduceEqDiff, Nat.reduceAdd, Nat.reduceMul, Nat.reduceSub, Nat.reduceLT, Int.reduceToNat]))
              done
            · rw [w3]
              (try (simp (disch := first | omega | (simp <;> omega) | fail) only [push_cast, ↓reduceIte, Nat.reduceEqDiff, Nat.reduceAdd, Nat.reduceMul, Nat.reduceSub, Nat.reduceLT, Int.reduceToNat, e1, e2, w1, w2, c11]))
              refine hfk.call ?_
              (try (simp (disch := first | omega | (simp <;> omega) | fail) only [push_cast, ↓reduceIte, Nat.reduceEqDiff, Nat.reduceAdd, Nat.reduceMul, Nat.reduceSub, Nat.reduceLT, Int.reduceToNat]))
              done
          · have e1 : ((rkS (lS o) s : Int) ≤ (k : Int)) = False := eq_false (by omega)
            refine hback _ (fun hw => ?_) fun w1 w2 w3 => ?_
            · rw [hw]
              (try (simp (disch := first | omega | (simp <;> omega) | fail) only [push_cast, ↓reduceIte, Nat.reduceEqDiff, Nat.reduceAdd, Nat.reduceMul, Nat.reduceSub, Nat.reduceLT, Int.reduceToNat, e1, c11]))
              refine hfk.call ?_
              (try (simp (disch := first | omega | (simp <;> omega) | fail) only [push_cast, ↓reduceIte, Nat.reduceEqDiff, Nat.reduceAdd, Nat.reduceMul, Nat.reduceSub, Nat.reduceLT, Int.reduceToNat]))
              done
            · rw [w3]
              (try (simp (disch := first | omega | (simp <;> omega) | fail) only [push_cast, ↓reduceIte, Nat.reduceEqDiff, Nat.reduceAdd, Nat.reduceMul, Nat.reduceSub, Nat.reduceLT, Int.reduceToNat, e1, w1, w2, c11]))
              refine hfk.call ?_
              (try (simp (disch := first | omega | (simp <;> omega) | fail) only [push_cast, ↓reduceIte, Nat.reduceEqDiff, Nat.reduceAdd, Nat.reduceMul, Nat.reduceSub, Nat.reduceLT, Int.reduceToNat]))
              done
        · have h6 := hpp.1 hpb
          have e1 : ((rkS (lS o) s : Int) ≤ (k : Int)) = True := eq_true (by omega)
          have e2 : ((k : Int) < (rkS (lS o) s : Int) + ((lS o2).length : Int)) = True := eq_true (by omega)
          refine hback _ (fun hw => ?_) fun w1 w2 w3 => ?_
          · rw [hw]
            (try (simp (disch := first | omega | (simp <;> omega) | fail) only [push_cast, ↓reduceIte, Nat.reduceEqDiff, Nat.reduceAdd, Nat.reduceMul, Nat.reduceSub, Nat.reduceLT, Int.reduceToNat, e1, e2, c11]))
            refine hfk.call ?_
            (try (simp (disch := first | omega | (simp <;> omega) | fail) only [push_cast, ↓reduceIte, Nat.reduceEqDiff, Nat.reduceAdd, Nat.reduceMul, Nat.reduceSub, Nat.reduceLT, Int.reduceToNat]))
            done
          · rw [w3]
            (try (simp (disch := first | omega | (simp <;> omega) | fail) only [push_cast, ↓reduceIte, Nat.reduceEqDiff, Nat.reduceAdd, Nat.reduceMul, Nat.reduceSub, Nat.reduceLT, Int.reduceToNat, e1, e2, w1, w2, c11]))
            refine hfk.call ?_
            (try (simp (disch := first | omega | (simp <;> omega) | fail) only [push_cast, ↓reduceIte, Nat.reduceEqDiff, Nat.reduceAdd, Nat.reduceMul, Nat.reduceSub, Nat.reduceLT, Int.reduceToNat]))
            done
      · (try (simp only [decide_eq_true_eq, decide_eq_false_iff_not, Bool.not_eq_true', Bool.not_eq_false', Bool.and_eq_true, Bool.or_eq_true, Int.not_lt, Int.not_le] at hc)); (try (simp (disch := first | omega | (simp <;> omega) | fail) only [push_cast, ↓reduceIte, Nat.reduceEqDiff, Nat.reduceAdd, Nat.reduceMul, Nat.reduceSub, Nat.reduceLT, Int.reduceToNat]))
        have hke : k = (lS o).length := by omega
        subst hke
        clear hRA hRB hRW
        (try (simp (disch := first | omega | (simp <;> omega) | fail) only [push_cast, ↓reduceIte, Nat.reduceEqDiff, Nat.reduceAdd, Nat.reduceMul, Nat.reduceSub, Nat.reduceLT, Int.reduceToNat, c9]))
        refine (hTH (lgS s (lS o))).call ?_
        by_cases h0 : lgS s (lS o) = []
        · have e1 : decide (lgS s (lS o) ≠ []) = false := decide_eq_false fun h5 => h5 h0
          (try (simp (disch := first | omega | (simp <;> omega) | fail) only [push_cast, ↓reduceIte, Nat.reduceEqDiff, Nat.reduceAdd, Nat.reduceMul, Nat.reduceSub, Nat.reduceLT, Int.reduceToNat, e1]))
          done
        · have e1 : decide (lgS s (lS o) ≠ []) = true := decide_eq_true h0
          have hm : lgS s (lS o) ∈ lS o := lg1.resolve_left h0
          have e2 : (((lgS s (lS o)).length : Int) ≤ (s.length : Int)) = True := eq_true (by omega)
          have e3 : s.take (lgS s (lS o)).length = lgS s (lS o) := (List.prefix_iff_eq_take.1 (pfB_iff.1 lg2)).symm
          have e4 : (s.drop 0).take ((lgS s (lS o)).length - 0) = lgS s (lS o) := by rw [List.drop_zero, Nat.sub_zero]; exact e3
          (try (simp (disch := first | omega | (simp <;> omega) | fail) only [push_cast, ↓reduceIte, Nat.reduceEqDiff, Nat.reduceAdd, Nat.reduceMul, Nat.reduceSub, Nat.reduceLT, Int.reduceToNat, e1, hm, e2, e4]))
          done
    · have hbv : bfV (lS o) b = .tup [.agg [.int .i64 0, .nils, .nils], .bool false] := by
        unfold bfV
        rw [if_neg fun h5 => hbr h5.2]
      rw [hbv] at hBF
      clear hTH hTR hKP hLK hha hkr
      generalize tK (lS o) = T at *
      obtain ⟨⟨ts, tw⟩, ⟨us, uw⟩, tl⟩ := T
      (try (simp (disch := first | omega | (simp <;> omega) | fail) only [push_cast, ↓reduceIte, Nat.reduceEqDiff, Nat.reduceAdd, Nat.reduceMul, Nat.reduceSub, Nat.reduceLT, Int.reduceToNat]))
      refine hBT.call ?_
      (try (simp (disch := first | omega | (simp <;> omega) | fail) only [push_cast, ↓reduceIte, Nat.reduceEqDiff, Nat.reduceAdd, Nat.reduceMul, Nat.reduceSub, Nat.reduceLT, Int.reduceToNat]))
      refine hBF.call ?_
      (try (simp (disch := first | omega | (simp <;> omega) | fail) only [push_cast, ↓reduceIte, Nat.reduceEqDiff, Nat.reduceAdd, Nat.reduceMul, Nat.reduceSub, Nat.reduceLT, Int.reduceToNat]))
      refine hSB.call ?_
      (try (simp (disch := first | omega | (simp <;> omega) | fail) only [push_cast, ↓reduceIte, Nat.reduceEqDiff, Nat.reduceAdd, Nat.reduceMul, Nat.reduceSub, Nat.reduceLT, Int.reduceToNat]))
      refine hpsT.call ?_
      (try (simp (disch := first | omega | (simp <;> omega) | fail) only [push_cast, ↓reduceIte, Nat.reduceEqDiff, Nat.reduceAdd, Nat.reduceMul, Nat.reduceSub, Nat.reduceLT, Int.reduceToNat]))
      done
  · (try (simp (disch := first | omega | (simp <;> omega) | fail) only [push_cast, ↓reduceIte, Nat.reduceEqDiff, Nat.reduceAdd, Nat.reduceMul, Nat.reduceSub, Nat.reduceLT, Int.reduceToNat]))

end Go.Proofs.YtdkgoaiodjokpaaGreat.M
