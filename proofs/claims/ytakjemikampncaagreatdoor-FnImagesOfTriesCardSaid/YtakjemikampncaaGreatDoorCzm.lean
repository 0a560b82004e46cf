/-
  What the functions return.
-/
import Derived.Test.YtakjemikampncaaGreatDoorFzm
import Derived.Test.YtakjemikampncaaGreatDoorCzl
namespace Go.Proofs.YtakjemikampncaaGreatDoor.M
open Go Go.RowKit
attribute [local instance] dqF
set_option linter.unusedVariables false
set_option linter.unusedSimpArgs false
set_option maxRecDepth 4000

theorem c_laws_big (a b : Option (List UInt8)) (ha : (lU a).length ≤ 9223372036854775807) : Fn Tryz.prog 15 [eU a, eU b] (· = .bool (decide (1048576 < ((lU a).length : Int)) || decide (1048576 - ((lU a).length : Int) < ((lU b).length : Int)))) := by
  refine Fn.of free_bool fun h => ?_
  refine enter (by kernel_rfl) e15 (by kernel_rfl) rfl fun hok => ?_
  simp only [r15, initEnv_2]
  by_cases h1 : 1048576 < ((lU a).length : Int)
  · (try (simp (disch := first | omega | (simp <;> omega) | fail) only [push_cast, ↓reduceIte, Nat.reduceEqDiff, Nat.reduceAdd, Nat.reduceMul, Nat.reduceSub, Nat.reduceLT, Int.reduceToNat, h1]))
    all_goals (try simp [h1])
  · (try (simp (disch := first | omega | (simp <;> omega) | fail) only [push_cast, ↓reduceIte, Nat.reduceEqDiff, Nat.reduceAdd, Nat.reduceMul, Nat.reduceSub, Nat.reduceLT, Int.reduceToNat, h1]))
    (first | refine goC_split (fun hc => ?_) (fun hc => ?_) | refine cnd_split (fun hc => ?_) (fun hc => ?_)) <;> ((try (simp (disch := first | omega | (simp <;> omega) | fail) only [push_cast, ↓reduceIte, Nat.reduceEqDiff, Nat.reduceAdd, Nat.reduceMul, Nat.reduceSub, Nat.reduceLT, Int.reduceToNat]))) <;> (try rw [hc])

theorem c_impl_TrieKeys_o (t : Tr) : FnO Tryz.prog 18 [eTr t] (KyR t fun _ => true) := by
  intro h
  refine enter (by kernel_rfl) e18 (by kernel_rfl) rfl fun hok => ?_
  simp only [r18, initEnv_1]
  have hk := c_impl_Trie_keys_o t
  have hfc := @free_cTr t
  have hcb0 : H.cells (h ++ [some (.cells (cTr t))]) h.length = some (cTr t) := by rw [cells_h0]; rfl
  have hg : ∀ v, KyR t (fun _ => true) v → ∃ o b, v = .tup [eS o, .bool b] := fun v hv => by
    obtain ⟨o, b, h1, _⟩ := hv
    exact ⟨o, b, h1⟩
  obtain ⟨⟨ss, sw⟩, ⟨es, ew⟩, lab⟩ := t
  (try (simp (disch := first | omega | (simp <;> omega) | fail) only [push_cast, ↓reduceIte, Nat.reduceEqDiff, Nat.reduceAdd, Nat.reduceMul, Nat.reduceSub, Nat.reduceLT, Int.reduceToNat]))
  refine hk.goL (.adr hcb0 hfc .nil) fun x t' g hR hx how => ?_
  obtain ⟨o, b, rfl⟩ := hg _ hR
  obtain ⟨y, rfl, hy⟩ := ow_tup2 rfl how
  have hl := hx.len
  simp only [List.length_append, List.length_cons, List.length_nil] at hl
  have hf : ∃ t', Ow g [.tup [y, .bool b]] [t'] (fun c => h.length ≤ c) ∧ KyR ⟨⟨ss, sw⟩, ⟨es, ew⟩, lab⟩ (fun _ => true) t' := ⟨_, ow_tup2_of rfl (hy.mono fun c hc => by have := hc.1; simp at this; omega), hR⟩
  (try (simp (disch := first | omega | (simp <;> omega) | fail) only [push_cast, ↓reduceIte, Nat.reduceEqDiff, Nat.reduceAdd, Nat.reduceMul, Nat.reduceSub, Nat.reduceLT, Int.reduceToNat]))
  all_goals (try exact hf)

def hk (seed part : Int) (s : Str) : Int := s.foldl (fun h c => (263 * h + (c.toNat : Int)) % 65521) ((31 * seed + 977 * part + 7) % 65521)
theorem hk_bd (seed part : Int) : ∀ s : Str, 0 ≤ hk seed part s ∧ hk seed part s < 65521 := by
  intro s
  have key : ∀ (s : Str) (h : Int), 0 ≤ h ∧ h < 65521 → 0 ≤ s.foldl (fun h c => (263 * h + (c.toNat : Int)) % 65521) h ∧ s.foldl (fun h c => (263 * h + (c.toNat : Int)) % 65521) h < 65521 := by
    intro s
    induction s with
    | nil => exact fun h hh => hh
    | cons c s ih =>
      intro h hh
      rw [List.foldl_cons]
      refine ih _ ?_
      show 0 ≤ (263 * h + (c.toNat : Int)) % 65521 ∧ (263 * h + (c.toNat : Int)) % 65521 < 65521
      omega
  exact key s _ ⟨by omega, by omega⟩
theorem hk_take {seed part : Int} {s : Str} {i : Nat} (hi : i < s.length) : hk seed part (s.take (i + 1)) = (263 * hk seed part (s.take i) + ((s.getD i 0).toNat : Int)) % 65521 := by
  unfold hk
  rw [List.take_add_one, List.foldl_append]
  simp [hi]
/-- The hash. -/
def hashV (seed part : Int) (s : Str) : Int := hk seed part s ^ 11 % 65521
theorem hashV_bd (seed part : Int) (s : Str) : 0 ≤ hashV seed part s ∧ hashV seed part s < 65521 := by
  unfold hashV
  exact ⟨by omega, by omega⟩
def placeV (seed part : Int) (s : Str) (n : Int) : Int := hashV seed part s * n / 65521
theorem pow_step (h : Int) (i : Nat) : h ^ i % 65521 * h % 65521 = h ^ (i + 1) % 65521 := by
  rw [Int.pow_succ, Int.mul_emod (h ^ i % 65521) h, Int.emod_emod_of_dvd _ (Int.dvd_refl _), ← Int.mul_emod]
theorem pow_join (h : Int) (i j : Nat) : (h ^ i % 65521) * (h ^ j % 65521) % 65521 = h ^ (i + j) % 65521 := by
  rw [← Int.mul_emod, Int.pow_add]

--eng lenA_ePS iaddr_ePS eP ld_P get_P0 get_P1 get_P2 cellsOf_ePS one_ePS cP
structure Pd where
  seed : Int
  seg : Int
  marks : Option (List Int)
  deriving Inhabited
def cP (p : Pd) : List AV := [.int .i64 p.seed, .int .i64 p.seg, eI p.marks]
theorem cP_len (p : Pd) : (cP p).length = 3 := rfl
def eP (p : Pd) : AV := .agg (cP p)
def ePS : Option (List Pd) → AV
  | none => .nils
  | some l => .ro 3 (l.flatMap cP) l.length
def lP : Option (List Pd) → List Pd
  | none => []
  | some l => l
theorem lenA_ePS {l : Option (List Pd)} : lenA (ePS l) = some (.int .i64 (lP l).length) := by cases l <;> rfl
theorem iaddr_ePS {l : Option (List Pd)} {k : IntKind} {n : Int} (h1 : 0 ≤ n) (h2 : n < (lP l).length) : iaddrA 3 (ePS l) (.int k n) = some (.rad ((lP l).flatMap cP) (n.toNat * 3)) := by
  cases l with
  | none => simp [lP] at h2; omega
  | some l => exact iaddrA_ro h1 h2
theorem ld_P {l : List Pd} {i : Nat} (hi : i < l.length) : ld true 3 (l.flatMap cP) (i * 3) = some (.agg (cP (l.getD i default))) := ld_row cP_len default hi
theorem get_P0 {l : List Pd} {i : Nat} (hi : i < l.length) : (l.flatMap cP)[i * 3]? = some (.int .i64 (l.getD i default).seed) := flatMap_get cP_len default (k := 0) hi (by omega)
theorem get_P1 {l : List Pd} {i : Nat} (hi : i < l.length) : (l.flatMap cP)[i * 3 + 1]? = some (.int .i64 (l.getD i default).seg) := flatMap_get cP_len default (k := 1) hi (by omega)
theorem get_P2 {l : List Pd} {i : Nat} (hi : i < l.length) : (l.flatMap cP)[i * 3 + 2]? = some (eI (l.getD i default).marks) := flatMap_get cP_len default (k := 2) hi (by omega)
theorem one_ePS {l : Option (List Pd)} : one (ePS l) = true := by cases l <;> rfl
theorem cellsOf_ePS {l : Option (List Pd)} : cellsOf (ePS l) = [ePS l] := by cases l <;> rfl
theorem free_cP {p : Pd} : ∀ c ∈ cP p, Free c := free_cons_ free_int (free_cons_ free_int (free_cons_ free_eI free_nil_))
theorem free_eP {p : Pd} : Free (eP p) := free_agg free_cP
theorem free_ePS {l : Option (List Pd)} : Free (ePS l) := by
  cases l with
  | none => exact free_nils
  | some l => exact free_ro (fun c hc => by obtain ⟨p, _, hp⟩ := List.mem_flatMap.1 hc; exact free_cP c hp)
theorem ok_ePS {l : Option (List Pd)} (h : OkV (ePS l)) : (lP l).length ≤ 9223372036854775807 := by
  cases l with
  | none => simp [lP]
  | some l => exact h.ro.1
def wPS (a : Option (List Pd)) : Nat := (lP a).length + ((lP a).map fun p => (lI p.marks).length).sum
/-- A copy of it. -/
def cpP (p : Pd) : Pd := ⟨p.seed, p.seg, some (lI p.marks)⟩
def cPc (p : Pd) : List AV := cP (cpP p)
theorem cPc_len (p : Pd) : (cPc p).length = 3 := rfl

attribute [push_cast] lenA_ePS iaddr_ePS eP ld_P get_P0 get_P1 get_P2 cellsOf_ePS one_ePS cP
def rank (l : List Int) (n : Nat) : Nat := (l.take n).countP (fun m => decide (m ≠ 3))
theorem rank_0 {l : List Int} : rank l 0 = 0 := by simp [rank]
theorem rank_le {l : List Int} {n : Nat} : rank l n ≤ n := by
  unfold rank
  have := List.countP_le_length (p := fun m : Int => decide (m ≠ 3)) (l := l.take n)
  have h2 : (l.take n).length ≤ n := by simp; omega
  omega
theorem rank_succ {l : List Int} {n : Nat} (hn : n < l.length) : rank l (n + 1) = rank l n + (if l.getD n 0 = 3 then 0 else 1) := by
  unfold rank
  rw [List.take_add_one, List.countP_append]
  congr 1
  by_cases h : l.getD n 0 = 3
  · have h' : l[n] = 3 := by simpa [hn] using h
    simp [hn, h']
  · have h' : l[n] ≠ 3 := by simpa [hn] using h
    simp [hn, h']
def okMarks (l : List Int) : Bool := l.all fun m => decide (0 ≤ m) && decide (m ≤ 3)
def okPd (p : Pd) : Bool := (decide (0 ≤ p.seed) && decide (p.seed ≤ 9999)) && ((decide (1 ≤ p.seg) && decide (p.seg ≤ 24)) && (decide (((lI p.marks).length : Int) = 3 * p.seg) && okMarks (lI p.marks)))

def sameP (p q : Pd) : Bool := decide (p.seed = q.seed) && (decide (p.seg = q.seg) && decide (lI p.marks = lI q.marks))
theorem sameP_cp (p : Pd) : sameP (cpP p) (cpP p) = true := by simp [sameP]
/-- The first so many are the same. -/
def sameFrom (l m : List Pd) : Nat → Bool
  | 0 => true
  | i + 1 => sameFrom l m i && sameP (l.getD i default) (m.getD i default)
theorem sameFrom_false {l m : List Pd} {i : Nat} : ∀ {j}, i ≤ j → sameFrom l m i = false → sameFrom l m j = false
  | 0, h, hf => by
    rw [show i = 0 by omega] at hf
    exact hf
  | j + 1, h, hf => by
    by_cases hi : i = j + 1
    · rw [← hi]
      exact hf
    · simp [sameFrom, sameFrom_false (show i ≤ j by omega) hf]
def samePS (l m : List Pd) : Bool := decide ((l.length : Int) = m.length) && sameFrom l m l.length
theorem samePS_cp (l : List Pd) : samePS (l.map cpP) (l.map cpP) = true := by
  have : ∀ n, sameFrom (l.map cpP) (l.map cpP) n = true := by
    intro n
    induction n with
    | zero => rfl
    | succ n ih => simp [sameFrom, ih, sameP]
  simp [samePS, this]

--eng eSh
structure Sh_ where
  seed : Int
  parts : Option (List Pd)
  offs : Option (List Int)
def eSh (s : Sh_) : AV := .agg [.int .i64 s.seed, ePS s.parts, eI s.offs]
def cpSh (s : Sh_) : Sh_ := ⟨s.seed, some ((lP s.parts).map cpP), some (lI s.offs)⟩
theorem free_eSh {s : Sh_} : Free (eSh s) := free_agg (free_cons_ free_int (free_cons_ free_ePS (free_cons_ free_eI free_nil_)))
def wSh (s : Sh_) : Nat := wPS s.parts + (lI s.offs).length

attribute [push_cast] eSh
def usedP (p : Pd) : Nat := rank (lI p.marks) (lI p.marks).length
def offAt (l : List Pd) (i : Nat) : Nat := ((l.take i).map usedP).sum
theorem offAt_0 {l : List Pd} : offAt l 0 = 0 := by simp [offAt]
theorem offAt_succ {l : List Pd} {i : Nat} (hi : i < l.length) : offAt l (i + 1) = offAt l i + usedP (l.getD i default) := by
  unfold offAt
  rw [List.take_add_one, List.map_append, List.sum_append]
  simp [hi]
theorem offAt_le {l : List Pd} {w : Nat} (hw : ∀ i, i < l.length → (lI (l.getD i default).marks).length ≤ w) : ∀ i, i ≤ l.length → offAt l i ≤ i * w
  | 0, _ => by simp [offAt_0]
  | i + 1, hi => by
    rw [offAt_succ (by omega), Nat.succ_mul]
    have h1 := offAt_le hw i (by omega)
    have h2 := hw i (by omega)
    have h3 : usedP (l.getD i default) ≤ _ := rank_le
    omega
theorem offAt_ok {l : List Pd} : ∀ i, i ≤ l.length → (l.take i).all okPd = true → offAt l i ≤ i * 72
  | 0, _, _ => by simp [offAt_0]
  | i + 1, hi, h => by
    rw [List.take_add_one, List.all_append, Bool.and_eq_true] at h
    have h0 : i < l.length := by omega
    have h1 := offAt_ok i (by omega) h.1
    have h2 : okPd (l.getD i default) = true := by
      have := h.2
      simp [h0] at this
      simpa [h0] using this
    simp only [okPd, Bool.and_eq_true, decide_eq_true_eq] at h2
    rw [offAt_succ h0]
    have h3 : usedP (l.getD i default) ≤ _ := rank_le
    omega
def offsL (l : List Pd) (i : Nat) : List Int := (List.range i).map fun j => (offAt l j : Int)
theorem offsL_len {l : List Pd} {i : Nat} : (offsL l i).length = i := by simp [offsL]
theorem offsL_succ {l : List Pd} {i : Nat} : offsL l (i + 1) = offsL l i ++ [(offAt l i : Int)] := by simp [offsL, List.range_succ]
def okSh (s : Sh_) : Bool := (decide (0 ≤ s.seed) && decide (s.seed ≤ 9999)) && ((decide (1 ≤ ((lP s.parts).length : Int)) && decide (((lP s.parts).length : Int) ≤ 8)) && ((lP s.parts).all okPd && decide (lI s.offs = offsL (lP s.parts) (lP s.parts).length)))
theorem okPd_len {p : Pd} (h : okPd p = true) : (lI p.marks).length ≤ 72 := by
  simp only [okPd, Bool.and_eq_true, decide_eq_true_eq] at h
  omega

theorem placeV_bd {seed part : Int} {s : Str} {n : Int} (hn : 0 < n) : 0 ≤ placeV seed part s n ∧ placeV seed part s n < n := by
  obtain ⟨h1, h2⟩ := hashV_bd seed part s
  unfold placeV
  have h3 : 0 ≤ hashV seed part s * n := Int.mul_nonneg h1 (by omega)
  have h4 : hashV seed part s * n < 65521 * n := Int.mul_lt_mul_of_pos_right h2 hn
  constructor
  · omega
  · omega
/-- The places of a key. -/
def tri (seed : Int) (key : Str) (seg : Int) (n : Nat) : List Int := (List.range n).map fun j : Nat => placeV seed (j : Int) key seg + (j : Int) * seg
theorem tri_succ {seed : Int} {key : Str} {seg : Int} {n : Nat} : tri seed key seg (n + 1) = tri seed key seg n ++ [placeV seed (n : Int) key seg + (n : Int) * seg] := by simp [tri, List.range_succ]
theorem tri_len {seed : Int} {key : Str} {seg : Int} {n : Nat} : (tri seed key seg n).length = n := by simp [tri]
theorem tri_get {seed : Int} {key : Str} {seg : Int} {n i : Nat} (hi : i < n) : (tri seed key seg n).getD i 0 = placeV seed (i : Int) key seg + (i : Int) * seg := by simp [tri, hi]
theorem tri_bd {seed : Int} {key : Str} {seg : Int} {i : Nat} (hs : 0 < seg) (hi : i < 3) : 0 ≤ (tri seed key seg 3).getD i 0 ∧ (tri seed key seg 3).getD i 0 < 3 * seg := by
  rw [tri_get hi]
  have := placeV_bd (seed := seed) (part := (i : Int)) (s := key) hs
  have h3 : i = 0 ∨ i = 1 ∨ i = 2 := by omega
  rcases h3 with rfl | rfl | rfl <;> omega
def sumAt (m : List Int) (l : List Int) : Int := (l.map fun p => m.getD p.toNat 0).sum
theorem sumAt_take {m l : List Int} {i : Nat} (hi : i < l.length) : sumAt m (l.take (i + 1)) = sumAt m (l.take i) + m.getD (l.getD i 0).toNat 0 := by
  unfold sumAt
  rw [List.take_add_one, List.map_append, List.sum_append]
  simp [hi]
theorem okMarks_get {m : List Int} (h : okMarks m = true) (i : Nat) : 0 ≤ m.getD i 0 ∧ m.getD i 0 ≤ 3 := by
  by_cases hi : i < m.length
  · have := List.all_eq_true.1 h (m.getD i 0) (by simp [hi])
    simp only [Bool.and_eq_true, decide_eq_true_eq] at this
    exact this
  · simp [hi]
theorem sumAt_bd {m : List Int} (h : okMarks m = true) : ∀ l : List Int, 0 ≤ sumAt m l ∧ sumAt m l ≤ 3 * l.length
  | [] => by simp [sumAt]
  | p :: l => by
    have h1 := sumAt_bd h l
    have h2 := okMarks_get h p.toNat
    have h3 : sumAt m (p :: l) = m.getD p.toNat 0 + sumAt m l := by simp [sumAt]
    rw [h3]
    simp only [List.length_cons]
    omega
/-- The place to which a key is led. -/
def leadV (p : Pd) (key : Str) : Int := (tri p.seed key p.seg 3).getD (sumAt (lI p.marks) (tri p.seed key p.seg 3) % 3).toNat 0
structure OkP (p : Pd) : Prop where
  s0 : 0 ≤ p.seed
  s1 : p.seed ≤ 9999
  g0 : 1 ≤ p.seg
  g1 : p.seg ≤ 24
  ml : ((lI p.marks).length : Int) = 3 * p.seg
  mo : okMarks (lI p.marks) = true
theorem okP_of {p : Pd} (h : okPd p = true) : OkP p := by
  simp only [okPd, Bool.and_eq_true, decide_eq_true_eq] at h
  exact ⟨h.1.1, h.1.2, h.2.1.1, h.2.1.2, h.2.2.1, h.2.2.2⟩
theorem leadV_bd {p : Pd} (h : OkP p) (key : Str) : 0 ≤ leadV p key ∧ leadV p key < (lI p.marks).length := by
  have hs := sumAt_bd h.mo (tri p.seed key p.seg 3)
  have := tri_bd (seed := p.seed) (key := key) (seg := p.seg) (i := (sumAt (lI p.marks) (tri p.seed key p.seg 3) % 3).toNat) (by have := h.g0; omega) (by omega)
  have := h.ml
  unfold leadV
  omega

theorem c_laws_pSameInts (a b : Option (List Int)) : Fn Tryz.prog 71 [eI a, eI b] (· = .bool (decide (lI a = lI b))) := by
  refine Fn.of free_bool fun h => ?_
  refine enter (by kernel_rfl) e71 (by kernel_rfl) rfl fun hok => ?_
  simp only [r71, initEnv_2]
  have ha := ok_eI (okV_0 hok)
  have hb := ok_eI (okV_1 hok)
  (try (simp (disch := first | omega | (simp <;> omega) | fail) only [push_cast, ↓reduceIte, Nat.reduceEqDiff, Nat.reduceAdd, Nat.reduceMul, Nat.reduceSub, Nat.reduceLT, Int.reduceToNat]))
  first | refine goC_split (fun hc => ?_) (fun hc => ?_) | refine cnd_split (fun hc => ?_) (fun hc => ?_)
  · (try (simp only [decide_eq_true_eq, decide_eq_false_iff_not, Bool.not_eq_true', Bool.not_eq_false', Bool.and_eq_true, Bool.or_eq_true, Int.not_lt, Int.not_le] at hc)); (try (simp (disch := first | omega | (simp <;> omega) | fail) only [push_cast, ↓reduceIte, Nat.reduceEqDiff, Nat.reduceAdd, Nat.reduceMul, Nat.reduceSub, Nat.reduceLT, Int.reduceToNat]))
    have : lI a ≠ lI b := fun h => hc (by rw [h])
    rw [decide_eq_false this]
  (try (simp only [decide_eq_true_eq, decide_eq_false_iff_not, Bool.not_eq_true', Bool.not_eq_false', Bool.and_eq_true, Bool.or_eq_true, Int.not_lt, Int.not_le] at hc)); (try (simp (disch := first | omega | (simp <;> omega) | fail) only [push_cast, ↓reduceIte, Nat.reduceEqDiff, Nat.reduceAdd, Nat.reduceMul, Nat.reduceSub, Nat.reduceLT, Int.reduceToNat]))
  have hll : (lI a).length = (lI b).length := by omega
  refine T_for (lI a).length (fun i e h' => Pins e [(0, eI a), (1, eI b), (12, .int .i64 (lI a).length), (13, .int .i64 i)] ∧ h' = h ∧ (lI a).take i = (lI b).take i) ?_ ?_
  · (try (simp (disch := first | omega | (simp <;> omega) | fail) only [push_cast, ↓reduceIte, Nat.reduceEqDiff, Nat.reduceAdd, Nat.reduceMul, Nat.reduceSub, Nat.reduceLT, Int.reduceToNat]))
    all_goals (try simp)
  rintro i e h' hi ⟨hp, rfl, ht⟩
  refine T_pins hp fun e => ?_
  (try (simp (disch := first | omega | (simp <;> omega) | fail) only [push_cast, ↓reduceIte, Nat.reduceEqDiff, Nat.reduceAdd, Nat.reduceMul, Nat.reduceSub, Nat.reduceLT, Int.reduceToNat]))
  first | refine goC_split (fun hd => ?_) (fun hd => ?_) | refine cnd_split (fun hd => ?_) (fun hd => ?_)
  · (try (simp only [decide_eq_true_eq, decide_eq_false_iff_not, Bool.not_eq_true', Bool.not_eq_false', Bool.and_eq_true, Bool.or_eq_true, Int.not_lt, Int.not_le] at hd)); (try (simp (disch := first | omega | (simp <;> omega) | fail) only [push_cast, ↓reduceIte, Nat.reduceEqDiff, Nat.reduceAdd, Nat.reduceMul, Nat.reduceSub, Nat.reduceLT, Int.reduceToNat]))
    have hi2 : i < (lI a).length := by omega
    have hi3 : i < (lI b).length := by omega
    have ha1 : (lI a).take (i + 1) = (lI a).take i ++ [(lI a).getD i 0] := by
      rw [List.take_add_one]
      simp [hi2]
    have hb1 : (lI b).take (i + 1) = (lI b).take i ++ [(lI b).getD i 0] := by
      rw [List.take_add_one]
      simp [hi3]
    (try (simp (disch := first | omega | (simp <;> omega) | fail) only [push_cast, ↓reduceIte, Nat.reduceEqDiff, Nat.reduceAdd, Nat.reduceMul, Nat.reduceSub, Nat.reduceLT, Int.reduceToNat]))
    first | refine goC_split (fun he => ?_) (fun he => ?_) | refine cnd_split (fun he => ?_) (fun he => ?_)
    · (try (simp only [decide_eq_true_eq, decide_eq_false_iff_not, Bool.not_eq_true', Bool.not_eq_false', Bool.and_eq_true, Bool.or_eq_true, Int.not_lt, Int.not_le] at he)); (try (simp (disch := first | omega | (simp <;> omega) | fail) only [push_cast, ↓reduceIte, Nat.reduceEqDiff, Nat.reduceAdd, Nat.reduceMul, Nat.reduceSub, Nat.reduceLT, Int.reduceToNat]))
      have : lI a ≠ lI b := fun h => he (by rw [h])
      rw [decide_eq_false this]
    · (try (simp only [decide_eq_true_eq, decide_eq_false_iff_not, Bool.not_eq_true', Bool.not_eq_false', Bool.and_eq_true, Bool.or_eq_true, Int.not_lt, Int.not_le] at he)); (try (simp (disch := first | omega | (simp <;> omega) | fail) only [push_cast, ↓reduceIte, Nat.reduceEqDiff, Nat.reduceAdd, Nat.reduceMul, Nat.reduceSub, Nat.reduceLT, Int.reduceToNat]))
      rw [ha1, hb1, ht, he]
      (try (simp (disch := first | omega | (simp <;> omega) | fail) only [push_cast, ↓reduceIte, Nat.reduceEqDiff, Nat.reduceAdd, Nat.reduceMul, Nat.reduceSub, Nat.reduceLT, Int.reduceToNat]))
  · (try (simp only [decide_eq_true_eq, decide_eq_false_iff_not, Bool.not_eq_true', Bool.not_eq_false', Bool.and_eq_true, Bool.or_eq_true, Int.not_lt, Int.not_le] at hd)); (try (simp (disch := first | omega | (simp <;> omega) | fail) only [push_cast, ↓reduceIte, Nat.reduceEqDiff, Nat.reduceAdd, Nat.reduceMul, Nat.reduceSub, Nat.reduceLT, Int.reduceToNat]))
    have : lI a = lI b := by
      rw [List.take_of_length_le (by omega), List.take_of_length_le (by omega)] at ht
      exact ht
    rw [decide_eq_true this]

theorem c_laws_pSameBits (b c : Bt) : Fn Tryz.prog 38 [eB b, eB c] (· = .bool (decide (b.size = c.size) && decide (lI b.words = lI c.words))) := by
  refine Fn.of free_bool fun h => ?_
  refine enter (by kernel_rfl) e38 (by kernel_rfl) rfl fun hok => ?_
  simp only [r38, initEnv_2]
  (try (simp (disch := first | omega | (simp <;> omega) | fail) only [push_cast, ↓reduceIte, Nat.reduceEqDiff, Nat.reduceAdd, Nat.reduceMul, Nat.reduceSub, Nat.reduceLT, Int.reduceToNat]))
  cases hs : decide (b.size = c.size)
  · (try (simp (disch := first | omega | (simp <;> omega) | fail) only [push_cast, ↓reduceIte, Nat.reduceEqDiff, Nat.reduceAdd, Nat.reduceMul, Nat.reduceSub, Nat.reduceLT, Int.reduceToNat]))
  (try (simp (disch := first | omega | (simp <;> omega) | fail) only [push_cast, ↓reduceIte, Nat.reduceEqDiff, Nat.reduceAdd, Nat.reduceMul, Nat.reduceSub, Nat.reduceLT, Int.reduceToNat]))
  refine (c_laws_pSameInts _ _).call ?_
  (try (simp (disch := first | omega | (simp <;> omega) | fail) only [push_cast, ↓reduceIte, Nat.reduceEqDiff, Nat.reduceAdd, Nat.reduceMul, Nat.reduceSub, Nat.reduceLT, Int.reduceToNat]))

theorem c_laws_pSameTrie (a b : Tr) : Fn Tryz.prog 19 [eTr a, eTr b] (· = .bool (sameT a b)) := by
  refine Fn.of free_bool fun h => ?_
  refine enter (by kernel_rfl) e19 (by kernel_rfl) rfl fun hok => ?_
  simp only [r19, initEnv_2]
  have hs : sameT a b = (sameB a.sh b.sh && (sameB a.en b.en && decide (a.lab = b.lab))) := rfl
  have hB : ∀ x y : Bt, Fn Tryz.prog 38 [eB x, eB y] (· = .bool (sameB x y)) := fun x y => c_laws_pSameBits x y
  rw [hs]
  (try (simp (disch := first | omega | (simp <;> omega) | fail) only [push_cast, ↓reduceIte, Nat.reduceEqDiff, Nat.reduceAdd, Nat.reduceMul, Nat.reduceSub, Nat.reduceLT, Int.reduceToNat]))
  refine (hB a.sh b.sh).call ?_
  cases h1 : sameB a.sh b.sh
  · (try (simp (disch := first | omega | (simp <;> omega) | fail) only [push_cast, ↓reduceIte, Nat.reduceEqDiff, Nat.reduceAdd, Nat.reduceMul, Nat.reduceSub, Nat.reduceLT, Int.reduceToNat]))
  (try (simp (disch := first | omega | (simp <;> omega) | fail) only [push_cast, ↓reduceIte, Nat.reduceEqDiff, Nat.reduceAdd, Nat.reduceMul, Nat.reduceSub, Nat.reduceLT, Int.reduceToNat]))
  refine (hB a.en b.en).call ?_
  cases h2 : sameB a.en b.en
  · (try (simp (disch := first | omega | (simp <;> omega) | fail) only [push_cast, ↓reduceIte, Nat.reduceEqDiff, Nat.reduceAdd, Nat.reduceMul, Nat.reduceSub, Nat.reduceLT, Int.reduceToNat]))
  · by_cases hl : a.lab = b.lab
    · (try (simp (disch := first | omega | (simp <;> omega) | fail) only [push_cast, ↓reduceIte, Nat.reduceEqDiff, Nat.reduceAdd, Nat.reduceMul, Nat.reduceSub, Nat.reduceLT, Int.reduceToNat, hl]))
    · (try (simp (disch := first | omega | (simp <;> omega) | fail) only [push_cast, ↓reduceIte, Nat.reduceEqDiff, Nat.reduceAdd, Nat.reduceMul, Nat.reduceSub, Nat.reduceLT, Int.reduceToNat, hl]))

def decV (l : Str) : Nat := l.foldl (fun a c => 10 * a + (c.toNat - 48)) 0
theorem decV_dec : ∀ n : Nat, decV (Lib.decDigits n) = n := fun n => by
  induction n using Nat.strongRecOn with
  | _ n ih =>
    rw [dec_rec]
    by_cases hn : n < 10
    · rw [if_pos hn]
      simp [decV]
      omega
    · rw [if_neg hn]
      unfold decV at ih ⊢
      rw [List.foldl_append, ih (n / 10) (by omega)]
      simp
      omega

theorem dec_inj {n m : Nat} (h : Lib.decDigits n = Lib.decDigits m) : n = m := by
  rw [← decV_dec n, h, decV_dec]
/-- The weighted sum. -/
def wsum (s : Str) : Nat → Int
  | 0 => 0
  | i + 1 => wsum s i + ((i : Int) + 1) * ((s.getD i 0).toNat : Int)
theorem chk_wsum (s : Str) : ∀ i, chk s i = wsum s i % 65521
  | 0 => by simp [chk, wsum]
  | i + 1 => by
    unfold chk wsum
    rw [chk_wsum s i, Int.emod_add_emod]
theorem getD_set {s : Str} {i j : Nat} {o : UInt8} (hi : i < s.length) : (s.set i o).getD j 0 = if j = i then o else s.getD j 0 := by
  simp only [List.getD_eq_getElem?_getD, List.getElem?_set]
  by_cases hj : i = j
  · subst hj
    simp [hi]
  · rw [if_neg hj, if_neg (Ne.symm hj)]
theorem wsum_set {s : Str} {i : Nat} {o : UInt8} (hi : i < s.length) : ∀ n, wsum (s.set i o) n = wsum s n + if i < n then ((i : Int) + 1) * ((o.toNat : Int) - ((s.getD i 0).toNat : Int)) else 0
  | 0 => by simp [wsum]
  | n + 1 => by
    unfold wsum
    rw [wsum_set hi n, getD_set hi]
    by_cases hn : n = i
    · subst hn
      rw [if_neg (by omega), if_pos rfl, if_pos (by omega), Int.mul_sub]
      omega
    · rw [if_neg hn]
      by_cases h5 : i < n
      · rw [if_pos h5, if_pos (show i < n + 1 by omega)]
        omega
      · simp only [if_neg h5, if_neg (show ¬ i < n + 1 by omega), Int.add_zero]
theorem cop : ∀ d, d < 94 → d ≠ 0 → Nat.gcd 65521 d = 1 := by decide
theorem chk_ne {s : Str} {i : Nat} {o : UInt8} (hi : i < s.length) (hl : s.length ≤ 6000) (h1 : okCh (s.getD i 0) = true) (h2 : okCh o = true) (hne : o ≠ s.getD i 0) : chk (s.set i o) s.length ≠ chk s s.length := by
  simp only [okCh, Bool.and_eq_true, decide_eq_true_eq] at h1 h2
  rw [chk_wsum, chk_wsum, wsum_set hi, if_pos hi]
  generalize wsum s s.length = t
  intro h
  have hne2 : o.toNat ≠ (s.getD i 0).toNat := fun he => hne (UInt8.toNat_inj.1 he)
  generalize (s.getD i 0).toNat = a at h1 hne2 h
  generalize o.toNat = b at h2 hne2 h
  have hd : (65521 : Int) ∣ ((i : Int) + 1) * ((b : Int) - (a : Int)) := by
    have := Int.emod_emod_of_dvd (t + ((i : Int) + 1) * ((b : Int) - (a : Int))) (Int.dvd_refl 65521)
    have h3 : (t + ((i : Int) + 1) * ((b : Int) - (a : Int)) - t) % 65521 = 0 := by
      rw [Int.sub_emod, h, Int.sub_self]
      rfl
    rw [show t + ((i : Int) + 1) * ((b : Int) - (a : Int)) - t = ((i : Int) + 1) * ((b : Int) - (a : Int)) by omega] at h3
    exact Int.dvd_of_emod_eq_zero h3
  have hn : 65521 ∣ (i + 1) * ((b : Int) - (a : Int)).natAbs := by
    have := Int.natAbs_dvd_natAbs.2 hd
    rw [Int.natAbs_mul] at this
    have e : ((i : Int) + 1).natAbs = i + 1 := by omega
    rw [e] at this
    exact this
  have hc := cop ((b : Int) - (a : Int)).natAbs (by omega) (by omega)
  have := Nat.Coprime.dvd_of_dvd_mul_right hc hn
  have := Nat.le_of_dvd (by omega) this
  omega
theorem open_sealed {s : Str} (hp : plainV s = true) : openOk (sealT s) (beforeT (sealT s)) = true ∧ beforeT (sealT s) = s := by
  have hb : beforeT (sealT s) = s := by
    unfold sealT
    exact before_app (plain_no126 (plainV_plain hp))
  rw [hb]
  unfold openOk
  simp [hp]
theorem seal_damage {s : Str} {i : Nat} {o : UInt8} (hp : plainV s = true) (hi : i < (sealT s).length) : openOk ((sealT s).set i o) (beforeT ((sealT s).set i o)) = decide (o = (sealT s).getD i 0) := by
  by_cases ho : o = (sealT s).getD i 0
  · have : (sealT s).set i o = sealT s := by
      rw [ho]
      refine List.ext_getElem? fun j => ?_
      rw [List.getElem?_set]
      by_cases hj : i = j
      · subst hj
        simp [hi]
      · rw [if_neg hj]
    rw [this, (open_sealed hp).1]
    simp [ho]
  · rw [decide_eq_false ho]
    have hpl := plainV_plain hp
    have hl : s.length ≤ 6000 := by
      simp only [plainV, Bool.and_eq_true, decide_eq_true_eq] at hp
      omega
    have h126 := plain_no126 hpl
    cases hq : openOk ((sealT s).set i o) (beforeT ((sealT s).set i o)) with
    | false => rfl
    | true =>
      exfalso
      have hq2 := hq
      simp only [openOk, Bool.and_eq_true, decide_eq_true_eq] at hq2
      obtain ⟨q1, q2⟩ := hq2
      rcases Nat.lt_trichotomy i s.length with h5 | h5 | h5
      · have hset : (sealT s).set i o = s.set i o ++ 126 :: Lib.decDigits (chk s s.length).toNat := by
          unfold sealT
          rw [List.set_append_left _ _ h5]
        have hgi : (sealT s).getD i 0 = s.getD i 0 := by
          unfold sealT
          simp [List.getElem?_append_left h5]
        rw [hgi] at ho
        by_cases ho6 : o = 126
        · have hcut : s.set i o = s.take i ++ 126 :: s.drop (i + 1) := by
            rw [List.set_eq_take_append_cons_drop, if_pos h5, ho6]
          have hb : beforeT ((sealT s).set i o) = s.take i := by
            rw [hset, hcut, List.append_assoc]
            exact before_app fun c hc => h126 c (List.mem_of_mem_take hc)
          rw [hb, hset, hcut] at q2
          unfold sealT at q2
          rw [List.append_assoc] at q2
          have q3 := List.append_cancel_left q2
          simp only [List.cons_append, List.cons.injEq, true_and] at q3
          have : (126 : UInt8) ∈ Lib.decDigits (chk (s.take i) (s.take i).length).toNat := by
            rw [q3]
            simp
          exact dec_no126 this
        · have hall : ∀ c ∈ s.set i o, (c != 126) = true := by
            intro c hc
            rcases List.mem_or_eq_of_mem_set hc with h6 | h6
            · exact h126 c h6
            · subst h6
              simpa using ho6
          have hb : beforeT ((sealT s).set i o) = s.set i o := by
            rw [hset]
            exact before_app hall
          rw [hb, hset] at q2
          rw [hb] at q1
          unfold sealT at q2
          have q3 := List.append_cancel_left q2
          simp only [List.cons.injEq, true_and] at q3
          have q4 := dec_inj q3
          rw [List.length_set] at q4
          obtain ⟨a1, _⟩ := chk_bd (s.set i o) s.length
          obtain ⟨b1, _⟩ := chk_bd s s.length
          refine chk_ne h5 hl (List.all_eq_true.1 hpl _ (by simp [h5])) (List.all_eq_true.1 (plainV_plain q1) o ?_) ho (by omega)
          exact List.mem_of_getElem? (i := i) (by simp [h5])
      · have hset : (sealT s).set i o = s ++ o :: Lib.decDigits (chk s s.length).toNat := by
          unfold sealT
          rw [h5]
          exact set_last
        have hgi : (sealT s).getD i 0 = 126 := by
          unfold sealT
          rw [h5]
          simp
        rw [hgi] at ho
        have hno : (126 : UInt8) ∉ (sealT s).set i o := by
          rw [hset]
          intro h6
          rcases List.mem_append.1 h6 with h6 | h6
          · have := h126 126 h6
            simp at this
          · rcases List.mem_cons.1 h6 with h6 | h6
            · exact ho h6.symm
            · exact dec_no126 h6
        rw [open_none hno] at hq
        cases hq
      · have hset : (sealT s).set i o = s ++ 126 :: (Lib.decDigits (chk s s.length).toNat).set (i - s.length - 1) o := by
          unfold sealT
          rw [List.set_append_right _ _ (by omega), show i - s.length = (i - s.length - 1) + 1 by omega, List.set_cons_succ]
          rfl
        have hb : beforeT ((sealT s).set i o) = s := by
          rw [hset]
          exact before_app h126
        rw [hb] at q2
        refine ho ?_
        have : ((sealT s).set i o).getD i 0 = o := by simp [hi]
        rw [← q2] at this
        exact this.symm

theorem seal_len_le (s : Str) : (sealT s).length ≤ s.length + 21 := by
  have h1 := chk_bd s s.length
  have h2 := dec_len (n := (chk s s.length).toNat) (by omega)
  unfold sealT
  simp only [List.length_append, List.length_cons]
  omega
theorem split_join : ∀ {K : List Str} {p : Str}, (∀ x ∈ p, x ≠ 32) → (∀ s ∈ K, ∀ x ∈ s, x ≠ 32) → splitL 32 (p ++ Lib.joinTail [32] K) = p :: K
  | [], p, hp, _ => by
    have : Lib.joinTail [32] [] = [] := rfl
    rw [this, List.append_nil, splitL_no 32 p hp]
  | s :: K, p, hp, hK => by
    have e : Lib.joinTail [32] (s :: K) = 32 :: (s ++ Lib.joinTail [32] K) := rfl
    rw [e, splitL_app 32 p _ hp, split_join (hK s (by simp)) fun x hx => hK x (List.mem_cons_of_mem _ hx)]
theorem load_trie {K : List Str} (hK : okKeys K = true) : ltV (sealT (trieT K)) = .tup [eTr (tK K), .bool true] ∧ openV (sealT (trieT K)) = .tup [.str (trieT K), .bool true] := by
  obtain ⟨h1, h2⟩ := open_sealed (trieT_plain hK)
  have h3 := okKeys_all hK
  have hs : splitL 32 (trieT K) = trW :: K := split_join (by decide) fun s hs x hx h5 => by
    have h7 := h3.1 s hs
    unfold okKey at h7
    rw [Bool.and_eq_true] at h7
    have h8 := List.all_eq_true.1 h7.1 x hx
    rw [h5] at h8
    revert h8
    decide
  refine ⟨lt_some ?_, ?_⟩
  · unfold ltD
    rw [h1, h2, hs]
    simp only [List.drop_succ_cons, List.drop_zero, true_and]
    rw [hK]
    simp [trW]
  · unfold openV
    rw [h1, h2]
    rfl

theorem fit_bytes {zs : List AV} (h : Fit (.sl (.int .u8) 1) zs) : ∃ a : Option (List UInt8), zs = [eU a] := by
  have key : ∀ xs, Fit (.int .u8) xs → ∃ c : UInt8, xs = [AV.int .u8 (c.toNat : Int)] := fun xs hx => by
    cases hx with
    | @int _ n h1 h2 =>
      have h1' : 0 ≤ n := by simpa [IntKind.min, IntKind.signed, IntKind.bits] using h1
      have h2' : n ≤ 255 := by simpa [IntKind.max, IntKind.signed, IntKind.bits] using h2
      refine ⟨UInt8.ofNat n.toNat, ?_⟩
      have : ((UInt8.ofNat n.toNat).toNat : Int) = n := by
        simp
        omega
      rw [this]
  rcases fit_rows (f := fun c : UInt8 => [AV.int .u8 (c.toNat : Int)]) key h with rfl | ⟨l, rfl⟩
  · exact ⟨none, rfl⟩
  · exact ⟨some l, by rw [flatMap_one]; rfl⟩

def pfB (s x : Str) : Bool := decide (s.length ≤ x.length) && decide (x.take s.length = s)

def mkD : Nat → Int → Str → Str
  | 0, _, out => out
  | f + 1, k, out => if k ≤ 0 then out else mkD f (k / 10) (UInt8.ofNat (48 + k % 10).toNat :: out)
theorem mkD_done {f : Nat} {k : Int} {out : Str} (h : k ≤ 0) : mkD f k out = out := by
  cases f with
  | zero => rfl
  | succ f => rw [mkD, if_pos h]
theorem mkD_next {f : Nat} {k : Int} {out : Str} (h : 0 < k) : mkD (f + 1) k out = mkD f (k / 10) (UInt8.ofNat (48 + k % 10).toNat :: out) := by
  rw [mkD, if_neg (by omega)]
/-- A mark. -/
def mkT (k : Int) : Str := if k ≤ 0 then [109, 48] else 109 :: mkD 20 k []
def marks (k : Int) (n : Nat) : List Str := (List.range n).map fun i : Nat => mkT (k + (i : Int))
theorem marks_len {k : Int} {n : Nat} : (marks k n).length = n := by simp [marks]
theorem marks_succ {k : Int} {n : Nat} : marks k (n + 1) = marks k n ++ [mkT (k + (n : Int))] := by simp [marks, List.range_succ]
theorem marks_get {k : Int} {n i : Nat} (hi : i < n) : (marks k n).getD i [] = mkT (k + (i : Int)) := by simp [marks, hi]
theorem mk_set {k : Int} {l : List Str} {i : Nat} (hi : i < l.length) : ((marks k i ++ l.drop i).map AV.str).set i (.str (mkT (k + (i : Int)))) = (marks k (i + 1) ++ l.drop (i + 1)).map AV.str := by
  rw [List.drop_eq_getElem_cons hi, marks_succ]
  simp only [List.map_append, List.map_cons, List.append_assoc, List.map_nil, List.cons_append, List.nil_append]
  have := set_last (p := (marks k i).map AV.str) (r := (l.drop (i + 1)).map AV.str) (x := .str l[i]) (y := .str (mkT (k + (i : Int))))
  rw [List.length_map, marks_len] at this
  exact this
def MkI (h h' : H) (b : Nat) (L : List Str) : Prop := h'.length = h.length ∧ (∀ b', b' ≠ b → h'[b']? = h[b']?) ∧ h'.cells b = some (L.map .str)
theorem MkI.put {h h' : H} {b : Nat} {L L2 : List Str} {cs : List AV} (hm : MkI h h' b L) (hc : cs = L2.map .str) : MkI h (wr h' b cs) b L2 := by
  obtain ⟨h1, h2, h3⟩ := hm
  subst hc
  refine ⟨by simp [wr, h1], fun b' hb' => ?_, ?_⟩
  · unfold wr
    rw [List.getElem?_set_ne (Ne.symm hb')]
    exact h2 b' hb'
  · rw [cells_eq]
    unfold wr
    rw [List.getElem?_set_self (cells_lt h3)]
    rfl

theorem KyR_same {t : Tr} {p : Str → Bool} {o o' : Option (List Str)} {b b' : Bool} (h : KyR t p (.tup [eS o, .bool b])) (h' : KyR t p (.tup [eS o', .bool b'])) : b' = b ∧ lS o' = lS o := by
  have inj : ∀ {o1 o2 : Option (List Str)}, eS o1 = eS o2 → lS o1 = lS o2 := fun {o1 o2} he => by
    cases o1 <;> cases o2
    · rfl
    · cases he
    · cases he
    · rename_i a c
      injection he with _ he _
      exact List.map_inj_right (fun x y hxy => by injection hxy) |>.1 he
  obtain ⟨o1, b1, e1, h1⟩ := h
  obtain ⟨o2, b2, e2, h2⟩ := h'
  injection e1 with e1
  injection e1 with e1 e3
  injection e3 with e3 _
  injection e3 with e3
  injection e2 with e2
  injection e2 with e2 e4
  injection e4 with e4 _
  injection e4 with e4
  subst e3 e4
  have i1 := inj e1
  have i2 := inj e2
  rw [i1, i2]
  rcases h1 with ⟨rfl, K, k1, k2⟩ | ⟨rfl, k1, k2⟩ <;> rcases h2 with ⟨rfl, K2, k3, k4⟩ | ⟨rfl, k3, k4⟩
  · rw [k1] at k3
    injection k3 with k3
    subst k3
    exact ⟨rfl, k4.trans k2.symm⟩
  · rw [k1] at k3
    cases k3
  · rw [k1] at k3
    cases k3
  · exact ⟨rfl, k4.trans k2.symm⟩
theorem KyR_len {t : Tr} {p : Str → Bool} {o : Option (List Str)} {b : Bool} (h : KyR t p (.tup [eS o, .bool b])) : (lS o).length ≤ 40 := by
  have inj : ∀ {o1 o2 : Option (List Str)}, eS o1 = eS o2 → (lS o1).length = (lS o2).length := fun {o1 o2} he => by
    cases o1 <;> cases o2
    · rfl
    · cases he
    · cases he
    · rename_i a c
      injection he
  obtain ⟨o1, b1, e1, h1⟩ := h
  injection e1 with e1
  injection e1 with e1 _
  rw [inj e1]
  rcases h1 with ⟨_, K, k1, k2⟩ | ⟨_, _, k2⟩
  · rw [k2]
    exact Nat.le_trans (List.length_filter_le _ _) (trV_ok k1).2
  · rw [k2]
    simp
theorem eS_S1 {h : H} {x : AV} {o : Option (List Str)} {G : Nat → Prop} (ho : Ow h [x] [eS o] G) : ∃ B, S1 h 1 x (lS o).length ((lS o).map .str) B ∧ ∀ c ∈ B, G c := by
  rcases eS_ow ho with ⟨rfl, rfl⟩ | ⟨L, b, rfl, rfl, h3, h4⟩
  · exact ⟨[], S1.nil, by simp⟩
  · exact ⟨[b], ⟨by simp, .inr ⟨b, rfl, rfl, h4⟩⟩, by simpa using h3⟩

def sh_FnImagesOfTries : List Sh := [.sl (.int .u8) 1, .sl (.int .u8) 1]
set_option maxHeartbeats 4000000 in
theorem law_FnImagesOfTries (ys : List AV) (hy : ArgsFit sh_FnImagesOfTries ys) : Call Tryz.prog 5 ys [] Nowhere (fun x _ => x = .bool true) := by
  obtain ⟨x1, y1, rfl, h1, hy⟩ := argsFit_cons hy
  obtain ⟨x2, y2, rfl, h2, hy⟩ := argsFit_cons hy
  obtain rfl := argsFit_nil hy
  obtain ⟨code, hce⟩ := fit_bytes h1
  obtain ⟨more, hme⟩ := fit_bytes h2
  subst hce hme
  refine (?_ : ∀ h, Call Tryz.prog 5 [eU code, eU more] h Nowhere (fun x _ => x = .bool true)) []
  intro h
  refine enter (by kernel_rfl) e5 (by kernel_rfl) rfl fun hok => ?_
  simp only [r5, initEnv_2]
  have hl1 := ok_eU (okV_0 hok)
  have hl2 := ok_eU (okV_1 hok)
  (try (simp (disch := first | omega | (simp <;> omega) | fail) only [push_cast, ↓reduceIte, Nat.reduceEqDiff, Nat.reduceAdd, Nat.reduceMul, Nat.reduceSub, Nat.reduceLT, Int.reduceToNat]))
  refine (c_laws_big code more hl1).call ?_
  cases hb : (decide (1048576 < ((lU code).length : Int)) || decide (1048576 - ((lU code).length : Int) < ((lU more).length : Int)))
  · (try (simp (disch := first | omega | (simp <;> omega) | fail) only [push_cast, ↓reduceIte, Nat.reduceEqDiff, Nat.reduceAdd, Nat.reduceMul, Nat.reduceSub, Nat.reduceLT, Int.reduceToNat]))
    refine (c_spec_DrawImageOfTrie code).use fun x hx => ?_
    obtain ⟨t, rfl⟩ := hx
    have hi := c_impl_ImageOfTrie t
    have hs := c_spec_ImageOfTrie t
    have hkx := (c_impl_TrieKeys_o t).fn
    have hps := fun T => c_laws_pSameTrie T t
    have hiv : itV t = match trV t with | some K => .tup [.str (sealT (trieT K)), .bool true] | none => .tup [.str [], .bool false] := rfl
    have hI := fun K => @trV_some t K
    have hgt : ∀ v, KyR t (fun _ => true) v → ∃ o b, v = .tup [eS o, .bool b] ∧ ((b = true ∧ trV t = some (lS o)) ∨ (b = false ∧ trV t = none ∧ lS o = [])) := fun v => KyR_get
    rw [hiv] at hi hs
    clear hiv
    obtain ⟨⟨ss, sw⟩, ⟨es, ew⟩, lab⟩ := t
    cases hv : trV ⟨⟨ss, sw⟩, ⟨es, ew⟩, lab⟩ with
    | none =>
      rw [hv] at hi hs
      simp only at hi hs
      (try (simp (disch := first | omega | (simp <;> omega) | fail) only [push_cast, ↓reduceIte, Nat.reduceEqDiff, Nat.reduceAdd, Nat.reduceMul, Nat.reduceSub, Nat.reduceLT, Int.reduceToNat]))
      refine hi.call ?_
      (try (simp (disch := first | omega | (simp <;> omega) | fail) only [push_cast, ↓reduceIte, Nat.reduceEqDiff, Nat.reduceAdd, Nat.reduceMul, Nat.reduceSub, Nat.reduceLT, Int.reduceToNat]))
      refine hs.call ?_
      (try (simp (disch := first | omega | (simp <;> omega) | fail) only [push_cast, ↓reduceIte, Nat.reduceEqDiff, Nat.reduceAdd, Nat.reduceMul, Nat.reduceSub, Nat.reduceLT, Int.reduceToNat]))
    | some K =>
      rw [hv] at hi hs
      simp only at hi hs
      have hIK := hI K hv
      have hKo := hIK.keys
      have hsame := hps (tK K)
      rw [hIK.same] at hsame
      obtain ⟨hl, ho⟩ := load_trie hKo
      have hlen := trieT_len hKo
      have hsl : (sealT (trieT K)).length ≤ 1000000 := by
        have h5 := seal_len_le (trieT K)
        omega
      have hL := (c_impl_LoadTrie_o (sealT (trieT K)) (by omega)).fn
      rw [hl] at hL
      have hO := c_impl_OpenSeal (sealT (trieT K)) (by omega)
      rw [ho] at hO
      clear hl ho hI hps hIK
      have hK3 := okKeys_all hKo
      generalize tK K = T at *
      obtain ⟨⟨ts, tw⟩, ⟨us, uw⟩, tl⟩ := T
      generalize sealT (trieT K) = Z at *
      (try (simp (disch := first | omega | (simp <;> omega) | fail) only [push_cast, ↓reduceIte, Nat.reduceEqDiff, Nat.reduceAdd, Nat.reduceMul, Nat.reduceSub, Nat.reduceLT, Int.reduceToNat]))
      refine hi.call ?_
      (try (simp (disch := first | omega | (simp <;> omega) | fail) only [push_cast, ↓reduceIte, Nat.reduceEqDiff, Nat.reduceAdd, Nat.reduceMul, Nat.reduceSub, Nat.reduceLT, Int.reduceToNat]))
      refine hs.call ?_
      (try (simp (disch := first | omega | (simp <;> omega) | fail) only [push_cast, ↓reduceIte, Nat.reduceEqDiff, Nat.reduceAdd, Nat.reduceMul, Nat.reduceSub, Nat.reduceLT, Int.reduceToNat]))
      refine hL.call ?_
      (try (simp (disch := first | omega | (simp <;> omega) | fail) only [push_cast, ↓reduceIte, Nat.reduceEqDiff, Nat.reduceAdd, Nat.reduceMul, Nat.reduceSub, Nat.reduceLT, Int.reduceToNat]))
      refine hO.call ?_
      (try (simp (disch := first | omega | (simp <;> omega) | fail) only [push_cast, ↓reduceIte, Nat.reduceEqDiff, Nat.reduceAdd, Nat.reduceMul, Nat.reduceSub, Nat.reduceLT, Int.reduceToNat]))
      refine hkx.use fun v hv2 => ?_
      obtain ⟨o, b, rfl, hob⟩ := hgt _ hv2
      rcases hob with ⟨rfl, h2⟩ | ⟨rfl, h2, h3⟩
      · rw [hv] at h2
        injection h2 with h2
        subst h2
        clear hgt hv2 hkx
        (try (simp (disch := first | omega | (simp <;> omega) | fail) only [push_cast, ↓reduceIte, Nat.reduceEqDiff, Nat.reduceAdd, Nat.reduceMul, Nat.reduceSub, Nat.reduceLT, Int.reduceToNat]))
        refine hsame.call ?_
        (try (simp (disch := first | omega | (simp <;> omega) | fail) only [push_cast, ↓reduceIte, Nat.reduceEqDiff, Nat.reduceAdd, Nat.reduceMul, Nat.reduceSub, Nat.reduceLT, Int.reduceToNat]))
        have e0 : trieT ((lS o).take 0) = [116, 114, 105, 101] := rfl
        refine T_for (lS o).length (fun k e h' => Pins e [(12, .str (trieT (lS o))), (16, .str (trieT ((lS o).take k))), (75, eS o), (76, .int .i64 (lS o).length), (77, .int .i64 k)]) ?_ ?_
        · rw [e0]
          (try (simp (disch := first | omega | (simp <;> omega) | fail) only [push_cast, ↓reduceIte, Nat.reduceEqDiff, Nat.reduceAdd, Nat.reduceMul, Nat.reduceSub, Nat.reduceLT, Int.reduceToNat]))
          all_goals (try simp)
        rintro k e h' hk hp
        refine T_pins hp fun e => ?_
        (try (simp (disch := first | omega | (simp <;> omega) | fail) only [push_cast, ↓reduceIte, Nat.reduceEqDiff, Nat.reduceAdd, Nat.reduceMul, Nat.reduceSub, Nat.reduceLT, Int.reduceToNat]))
        first | refine goC_split (fun hc => ?_) (fun hc => ?_) | refine cnd_split (fun hc => ?_) (fun hc => ?_)
        · (try (simp only [decide_eq_true_eq, decide_eq_false_iff_not, Bool.not_eq_true', Bool.not_eq_false', Bool.and_eq_true, Bool.or_eq_true, Int.not_lt, Int.not_le] at hc)); (try (simp (disch := first | omega | (simp <;> omega) | fail) only [push_cast, ↓reduceIte, Nat.reduceEqDiff, Nat.reduceAdd, Nat.reduceMul, Nat.reduceSub, Nat.reduceLT, Int.reduceToNat]))
          have hk2 : k < (lS o).length := by omega
          obtain ⟨y, hy⟩ : ∃ y, y = (lS o).getD k [] := ⟨_, rfl⟩
          have hyk : (lS o)[k]? = some y := by rw [hy]; simp [hk2]
          have hyl : y.length ≤ 12 := (okKey_len (hK3.1 y (List.mem_of_getElem? hyk))).2
          obtain ⟨T0, hT0, hc1, hc2⟩ := cat_trie hyk hyl hlen
          rw [← hT0]
          have hgd : (lS o)[k]?.getD [] = y := by rw [hyk]; rfl
          (try (simp (disch := first | omega | (simp <;> omega) | fail) only [push_cast, ↓reduceIte, Nat.reduceEqDiff, Nat.reduceAdd, Nat.reduceMul, Nat.reduceSub, Nat.reduceLT, Int.reduceToNat, hgd, ← hy, hc1, hc2]))
        · (try (simp only [decide_eq_true_eq, decide_eq_false_iff_not, Bool.not_eq_true', Bool.not_eq_false', Bool.and_eq_true, Bool.or_eq_true, Int.not_lt, Int.not_le] at hc)); (try (simp (disch := first | omega | (simp <;> omega) | fail) only [push_cast, ↓reduceIte, Nat.reduceEqDiff, Nat.reduceAdd, Nat.reduceMul, Nat.reduceSub, Nat.reduceLT, Int.reduceToNat]))
          have hke : k = (lS o).length := by omega
          subst hke
          rw [List.take_length]
          (try (simp (disch := first | omega | (simp <;> omega) | fail) only [push_cast, ↓reduceIte, Nat.reduceEqDiff, Nat.reduceAdd, Nat.reduceMul, Nat.reduceSub, Nat.reduceLT, Int.reduceToNat]))
      · rw [hv] at h2
        cases h2
  · (try (simp (disch := first | omega | (simp <;> omega) | fail) only [push_cast, ↓reduceIte, Nat.reduceEqDiff, Nat.reduceAdd, Nat.reduceMul, Nat.reduceSub, Nat.reduceLT, Int.reduceToNat]))

end Go.Proofs.YtakjemikampncaaGreatDoor.M
