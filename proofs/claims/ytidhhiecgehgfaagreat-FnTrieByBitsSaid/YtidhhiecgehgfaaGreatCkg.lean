/-
  What the functions return.
-/
import Derived.Test.YtidhhiecgehgfaaGreatFkg
import Derived.Test.YtidhhiecgehgfaaGreatCkd
namespace Go.Proofs.YtidhhiecgehgfaaGreat.M
open Go Go.RowKit
set_option linter.unusedVariables false
set_option linter.unusedSimpArgs false
set_option maxRecDepth 4000

theorem c_spec_DrawParentOf (c : Option (List UInt8)) : Fn Tryz.prog 44 [eU c] (fun x => ∃ (t : Tr) (i : Int), x = .tup [eTr t, .int .i64 i]) := by
  refine Fn.froze_ fun h => ?_
  refine enter (by kernel_rfl) e44 (by kernel_rfl) rfl fun hok => ?_
  simp only [r44, initEnv_1]
  have hfb : fillA [.nils, .int .i64 0, .int .u64 0] [(0, 1, eU c)] = some [eU c, .int .i64 0, .int .u64 0] := by cases c <;> rfl
  have hcp : ∀ b', b' = h.length + 1 → Nowhere b' ∨ h.length ≤ b' := fun b' hb' => Or.inr (by omega)
  (try (simp (disch := first | omega | (simp <;> omega) | fail) only [push_cast, ↓reduceIte, Nat.reduceEqDiff, Nat.reduceAdd, Nat.reduceMul, Nat.reduceSub, Nat.reduceLT, Int.reduceToNat, hfb]))
  refine (c_spec_l1Cur_trie (h.length + 1) c 0 (h ++ [some (.cells [.int .i64 0, .nils, .int .i64 0, .nils, .str []]), some (.cells [eU c, .int .i64 0, .int .u64 0])]) ⟨0, 0, by rw [cells_hk]; rfl, Nat.le_refl _⟩ (by omega)).mono (fun x g0 hx => ?_) (fun b' _ hb' => hcp b' hb')
  obtain ⟨⟨t, rfl, hsz⟩, hF⟩ := hx
  obtain ⟨⟨ss, sw⟩, ⟨es, ew⟩, lab⟩ := t
  simp only at hsz
  have hM := hF.more (l := [some (.cells [.int .i64 ss, eI sw, .int .i64 es, eI ew, .str lab])])
  have cb : H.cells (g0 ++ [some (.cells [.int .i64 ss, eI sw, .int .i64 es, eI ew, .str lab])]) g0.length = some [.int .i64 ss, eI sw, .int .i64 es, eI ew, .str lab] := by rw [cells_h0]; rfl
  have hlg := hF.1
  simp only [List.length_append, List.length_cons, List.length_nil] at hlg
  have hpm : (h.length ≤ h.length) = True := by simp
  have hfin : ∀ (hh : H) (i : Int), ∃ t', Vw hh h.length (.tup [eTr ⟨⟨ss, sw⟩, ⟨es, ew⟩, lab⟩, .int .i64 i]) t' ∧ ∃ (t : Tr) (i : Int), t' = .tup [eTr t, .int .i64 i] := fun hh i => ⟨_, .free (free_tup (free_cons_ free_eTr (free_cons_ free_int free_nil_))), _, _, rfl⟩
  (try (simp (disch := first | omega | (simp <;> omega) | fail) only [push_cast, ↓reduceIte, Nat.reduceEqDiff, Nat.reduceAdd, Nat.reduceMul, Nat.reduceSub, Nat.reduceLT, Int.reduceToNat, cb, reads, List.mem_cons, List.mem_append, List.not_mem_nil, nat_ff, or_self, or_false, false_or, not_false_eq_true]))
  repeat' (with_reducible refine And.intro ?_ ?_)
  all_goals
    refine (c_spec_l1Cur_placeA (h.length + 1) c _ _ es hM.2.2 (by omega) (by omega)).mono (fun y g1 hy => ?_) (fun b' _ hb' => hcp b' hb')
    obtain ⟨⟨i, rfl, i0, i1⟩, hF1⟩ := hy
    have c0 : g1.cells h.length = some [.int .i64 0, .nils, .int .i64 0, .nils, .str []] := (hM.trans hF1).cells (k := h.length) (by rw [cells_h0]; rfl) (by omega)
    have cb1 : g1.cells g0.length = some [.int .i64 ss, eI sw, .int .i64 es, eI ew, .str lab] := hF1.cells cb (by omega)
    have hw := fun cs => cells_wr2 (cells_lt c0) (cs := cs)
    (try (simp (disch := first | omega | (simp <;> omega) | fail) only [push_cast, ↓reduceIte, Nat.reduceEqDiff, Nat.reduceAdd, Nat.reduceMul, Nat.reduceSub, Nat.reduceLT, Int.reduceToNat, c0, cb1, hpm, hw, reads, List.mem_cons, List.mem_append, List.not_mem_nil, nat_ff, or_self, or_false, false_or, not_false_eq_true]))
    all_goals (try exact hfin _ _)

theorem c_Clone_ints_own (l : List Int) (hl : l.length ≤ 1000000) (h : H) : Call Tryz.prog 145 [eI (some l)] h Nowhere (fun x h' => ∃ b, x = .sl b 0 1 l.length l.length ∧ h.length ≤ b ∧ (∃ p, h' = h ++ p) ∧ h'.cells b = some (l.map (.int .i64))) := by
  show Call Tryz.prog 145 [.ro 1 (l.map (.int .i64)) l.length] h Nowhere _
  refine enter (by kernel_rfl) e145 (by kernel_rfl) rfl fun hok => ?_
  simp only [r145, initEnv_1]
  (try (simp (disch := first | omega | (simp <;> omega) | fail) only [push_cast, ↓reduceIte, Nat.reduceEqDiff, Nat.reduceAdd, Nat.reduceMul, Nat.reduceSub, Nat.reduceLT, Int.reduceToNat]))
  have hs0 : S1 (h ++ [some (.cells [])]) 1 (.sl h.length 0 1 0 0) 0 [] [h.length] := ⟨by simp, .inr ⟨h.length, rfl, rfl, by rw [cells_h0]; rfl⟩⟩
  by_cases h0 : l.length = 0
  · have hl0 : l = [] := List.eq_nil_of_length_eq_zero h0
    subst hl0
    (try (simp (disch := first | omega | (simp <;> omega) | fail) only [push_cast, ↓reduceIte, Nat.reduceEqDiff, Nat.reduceAdd, Nat.reduceMul, Nat.reduceSub, Nat.reduceLT, Int.reduceToNat, lI]))
    all_goals (try exact ⟨_, rfl, Nat.le_refl _, ⟨_, rfl⟩, by rw [cells_h0]; rfl⟩)
  · (try (simp (disch := first | omega | (simp <;> omega) | fail) only [push_cast, ↓reduceIte, Nat.reduceEqDiff, Nat.reduceAdd, Nat.reduceMul, Nat.reduceSub, Nat.reduceLT, Int.reduceToNat, lI]))
    all_goals (try exact ⟨_, rfl, by omega, ⟨_, rfl⟩, by rw [cells_hk]; simp [cellsO, List.take_of_length_le]⟩)

theorem cells_tl {h p : H} {a a' c c' : Option AObj} {b : Nat} {cs : List AV} (hb : h.length + 2 ≤ b) (hc : H.cells (h ++ a :: c :: p) b = some cs) : H.cells (h ++ a' :: c' :: p) b = some cs := by
  rw [cells_eq] at hc ⊢
  rw [List.getElem?_append_right (by omega)] at hc ⊢
  obtain ⟨k, hk⟩ : ∃ k, b - h.length = k + 2 := ⟨b - h.length - 2, by omega⟩
  rw [hk] at hc ⊢
  simpa using hc
theorem c_impl_cloneBits_own (n : Int) (l : List Int) (hl : l.length ≤ 1000000) (h : H) : Call Tryz.prog 123 [eB ⟨n, some l⟩] h Nowhere (fun x h' => ∃ b, x = .agg [.int .i64 n, .sl b 0 1 l.length l.length] ∧ h.length ≤ b ∧ (∃ p, h' = h ++ p) ∧ h'.cells b = some (l.map (.int .i64))) := by
  refine enter (by kernel_rfl) e123 (by kernel_rfl) rfl fun hok => ?_
  simp only [r123, initEnv_1]
  (try (simp (disch := first | omega | (simp <;> omega) | fail) only [push_cast, ↓reduceIte, Nat.reduceEqDiff, Nat.reduceAdd, Nat.reduceMul, Nat.reduceSub, Nat.reduceLT, Int.reduceToNat]))
  repeat' (with_reducible refine And.intro ?_ ?_)
  all_goals
    refine (c_Clone_ints_own l hl _).mono (fun x h1 hx => ?_) (fun _ _ h => h.elim)
    obtain ⟨b, rfl, hb, ⟨p, rfl⟩, hc⟩ := hx
    simp only [List.append_assoc, List.cons_append, List.nil_append, List.length_append, List.length_cons, List.length_nil] at hb hc
    (try (simp (disch := first | omega | (simp <;> omega) | fail) only [push_cast, ↓reduceIte, Nat.reduceEqDiff, Nat.reduceAdd, Nat.reduceMul, Nat.reduceSub, Nat.reduceLT, Int.reduceToNat, reads, List.mem_cons, List.mem_append, List.not_mem_nil, nat_ff, or_self, or_false, false_or, not_false_eq_true]))
    try exact ⟨b, rfl, by omega, ⟨_, rfl⟩, cells_tl (by omega) hc⟩

def cntB (B n : Nat) : Nat := ((List.range n).filter B.testBit).length
theorem cntB_succ {B n : Nat} : cntB B (n + 1) = cntB B n + if B.testBit n then 1 else 0 := by
  unfold cntB
  rw [List.range_succ, List.filter_append, List.length_append]
  cases h : B.testBit n <;> simp [h]
theorem cntB_le {B : Nat} : ∀ {n : Nat}, cntB B n ≤ n
  | 0 => by simp [cntB]
  | n + 1 => by
    rw [cntB_succ]
    have := cntB_le (B := B) (n := n)
    split <;> omega
theorem c_impl_Bits_count (ws : Option (List Int)) (B m n : Nat) (cs : List AV) (off : Nat) (h1 : cs[off + 1]? = some (eI ws)) (hw : lI ws = wordsN B m) (hn : n ≤ 16 * m) (hm : m ≤ 100000) : Fn Tryz.prog 65 [.rad cs off, .int .i64 0, .int .i64 n] (· = .int .i64 (cntB B n)) := by
  refine Fn.of free_int fun h => ?_
  refine enter (by kernel_rfl) e65 (by kernel_rfl) rfl fun hok => ?_
  simp only [r65, initEnv_3]
  have hle := @cntB_le B
  (try (simp (disch := first | omega | (simp <;> omega) | fail) only [push_cast, ↓reduceIte, Nat.reduceEqDiff, Nat.reduceAdd, Nat.reduceMul, Nat.reduceSub, Nat.reduceLT, Int.reduceToNat]))
  refine T_for n (fun i e h' => Pins e [(0, .rad cs off), (2, .int .i64 n), (7, .int .i64 (cntB B i)), (8, .int .i64 i)] ∧ h' = h) ?_ ?_
  · (try (simp (disch := first | omega | (simp <;> omega) | fail) only [push_cast, ↓reduceIte, Nat.reduceEqDiff, Nat.reduceAdd, Nat.reduceMul, Nat.reduceSub, Nat.reduceLT, Int.reduceToNat]))
    all_goals (try simp [cntB])
  rintro i e h' hi ⟨hp, rfl⟩
  refine T_pins hp fun e => ?_
  have hli := @hle i
  have hsu := @cntB_succ B i
  (try (simp (disch := first | omega | (simp <;> omega) | fail) only [push_cast, ↓reduceIte, Nat.reduceEqDiff, Nat.reduceAdd, Nat.reduceMul, Nat.reduceSub, Nat.reduceLT, Int.reduceToNat]))
  first | refine goC_split (fun hc => ?_) (fun hc => ?_) | refine cnd_split (fun hc => ?_) (fun hc => ?_)
  · (try (simp only [decide_eq_true_eq, decide_eq_false_iff_not, Bool.not_eq_true', Bool.not_eq_false', Bool.and_eq_true, Bool.or_eq_true, Int.not_lt, Int.not_le] at hc)); (try (simp (disch := first | omega | (simp <;> omega) | fail) only [push_cast, ↓reduceIte, Nat.reduceEqDiff, Nat.reduceAdd, Nat.reduceMul, Nat.reduceSub, Nat.reduceLT, Int.reduceToNat]))
    have hi2 : i < n := by omega
    (try (simp (disch := first | omega | (simp <;> omega) | fail) only [push_cast, ↓reduceIte, Nat.reduceEqDiff, Nat.reduceAdd, Nat.reduceMul, Nat.reduceSub, Nat.reduceLT, Int.reduceToNat]))
    refine (c_impl_Bits_at ws B m i cs off h1 hw (by omega) (by omega)).call ?_
    cases hb : B.testBit i
    · rw [hb, if_neg (by simp)] at hsu
      (try (simp (disch := first | omega | (simp <;> omega) | fail) only [push_cast, ↓reduceIte, Nat.reduceEqDiff, Nat.reduceAdd, Nat.reduceMul, Nat.reduceSub, Nat.reduceLT, Int.reduceToNat, hsu]))
      all_goals (try rfl)
    · rw [hb, if_pos rfl] at hsu
      (try (simp (disch := first | omega | (simp <;> omega) | fail) only [push_cast, ↓reduceIte, Nat.reduceEqDiff, Nat.reduceAdd, Nat.reduceMul, Nat.reduceSub, Nat.reduceLT, Int.reduceToNat, hsu]))
      all_goals (try rfl)
      all_goals (try omega)
  · (try (simp only [decide_eq_true_eq, decide_eq_false_iff_not, Bool.not_eq_true', Bool.not_eq_false', Bool.and_eq_true, Bool.or_eq_true, Int.not_lt, Int.not_le] at hc)); (try (simp (disch := first | omega | (simp <;> omega) | fail) only [push_cast, ↓reduceIte, Nat.reduceEqDiff, Nat.reduceAdd, Nat.reduceMul, Nat.reduceSub, Nat.reduceLT, Int.reduceToNat]))
    have hie : i = n := by omega
    subst hie
    (try (simp (disch := first | omega | (simp <;> omega) | fail) only [push_cast, ↓reduceIte, Nat.reduceEqDiff, Nat.reduceAdd, Nat.reduceMul, Nat.reduceSub, Nat.reduceLT, Int.reduceToNat]))
theorem c_impl_Bits_countR (ws : Option (List Int)) (B m a b : Nat) (cs : List AV) (off : Nat) (h1 : cs[off + 1]? = some (eI ws)) (hw : lI ws = wordsN B m) (hab : a ≤ b) (hn : b ≤ 16 * m) (hm : m ≤ 100000) : Fn Tryz.prog 65 [.rad cs off, .int .i64 a, .int .i64 b] (· = .int .i64 ((cntB B b : Int) - (cntB B a : Int))) := by
  refine Fn.of free_int fun h => ?_
  refine enter (by kernel_rfl) e65 (by kernel_rfl) rfl fun hok => ?_
  simp only [r65, initEnv_3]
  have hle := @cntB_le B
  (try (simp (disch := first | omega | (simp <;> omega) | fail) only [push_cast, ↓reduceIte, Nat.reduceEqDiff, Nat.reduceAdd, Nat.reduceMul, Nat.reduceSub, Nat.reduceLT, Int.reduceToNat]))
  refine T_for (b - a) (fun i e h' => Pins e [(0, .rad cs off), (2, .int .i64 b), (7, .int .i64 ((cntB B (a + i) : Int) - (cntB B a : Int))), (8, .int .i64 ((a : Int) + i))] ∧ h' = h) ?_ ?_
  · (try (simp (disch := first | omega | (simp <;> omega) | fail) only [push_cast, ↓reduceIte, Nat.reduceEqDiff, Nat.reduceAdd, Nat.reduceMul, Nat.reduceSub, Nat.reduceLT, Int.reduceToNat]))
    all_goals (try simp)
  rintro i e h' hi ⟨hp, rfl⟩
  refine T_pins hp fun e => ?_
  have hli := @hle (a + i)
  have hla := @hle a
  have hsu : cntB B (a + (i + 1)) = cntB B (a + i) + if B.testBit (a + i) then 1 else 0 := @cntB_succ B (a + i)
  by_cases hi2 : i < b - a
  · have hib : ((a : Int) + (i : Int) < (b : Int)) = True := eq_true (by omega)
    (try (simp (disch := first | omega | (simp <;> omega) | fail) only [push_cast, ↓reduceIte, Nat.reduceEqDiff, Nat.reduceAdd, Nat.reduceMul, Nat.reduceSub, Nat.reduceLT, Int.reduceToNat, hib]))
    have hat := c_impl_Bits_at ws B m (a + i) cs off h1 hw (by omega) (by omega)
    rw [show ((a + i : Nat) : Int) = (a : Int) + (i : Int) by omega] at hat
    refine hat.call ?_
    cases hb : B.testBit (a + i)
    · rw [hb, if_neg (by simp)] at hsu
      (try (simp (disch := first | omega | (simp <;> omega) | fail) only [push_cast, ↓reduceIte, Nat.reduceEqDiff, Nat.reduceAdd, Nat.reduceMul, Nat.reduceSub, Nat.reduceLT, Int.reduceToNat, hsu]))
      all_goals (try omega)
    · rw [hb, if_pos rfl] at hsu
      (try (simp (disch := first | omega | (simp <;> omega) | fail) only [push_cast, ↓reduceIte, Nat.reduceEqDiff, Nat.reduceAdd, Nat.reduceMul, Nat.reduceSub, Nat.reduceLT, Int.reduceToNat, hsu]))
      all_goals (try omega)
  · have hie : a + i = b := by omega
    have hib : ((a : Int) + (i : Int) < (b : Int)) = False := eq_false (by omega)
    (try (simp (disch := first | omega | (simp <;> omega) | fail) only [push_cast, ↓reduceIte, Nat.reduceEqDiff, Nat.reduceAdd, Nat.reduceMul, Nat.reduceSub, Nat.reduceLT, Int.reduceToNat, hib, hie]))

def zF : AV := .tup [.int .i64 0, .bool false]
def paV (t : Tr) (i : Int) : AV := match trV t with
  | some K => if 1 ≤ i ∧ i ≤ ((nodesK K).length : Int) - 1 then .tup [.int .i64 (fndI (nodesK K) (((nodesK K).getD i.toNat []).take (((nodesK K).getD i.toNat []).length - 1))), .bool true] else zF
  | none => zF
def chR (N : List Str) (s : Str) : AV := if fndI N s < 0 then zF else .tup [.int .i64 (fndI N s), .bool true]
def chV (t : Tr) (i c : Int) : AV := match trV t with
  | some K => if (0 ≤ i ∧ i ≤ ((nodesK K).length : Int) - 1) ∧ (0 ≤ c ∧ c ≤ 255) then chR (nodesK K) ((nodesK K).getD i.toNat [] ++ [UInt8.ofNat c.toNat]) else zF
  | none => zF
def txV (t : Tr) (s : Str) : AV := match trV t with
  | some K => if s ∈ K then .tup [.int .i64 (fndI ((nodesK K).filter fun x => decide (x ∈ K)) s), .bool true] else zF
  | none => zF
def rkV (t : Tr) (s : Str) : AV := match trV t with
  | some K => .tup [.int .i64 (rkS K s), .bool true]
  | none => zF
def KyR (t : Tr) (p : Str → Bool) (v : AV) : Prop := ∃ o b, v = .tup [eS o, .bool b] ∧ ((b = true ∧ ∃ K, trV t = some K ∧ lS o = K.filter p) ∨ (b = false ∧ trV t = none ∧ lS o = []))
def okV (t : Tr) : AV := match trV t with
  | some K => .tup [eS (some (nodesK K)), .bool true]
  | none => .tup [.nils, .bool false]
theorem trV_ok {t : Tr} {K : List Str} (h : trV t = some K) : okKeys K = true ∧ K.length ≤ 40 := ⟨(trV_some h).keys, (okKeys_all (trV_some h).keys).2.2⟩
theorem KyR.no {t : Tr} {p : Str → Bool} (h : trV t = none) : KyR t p (.tup [.nils, .bool false]) := ⟨none, false, rfl, .inr ⟨rfl, h, rfl⟩⟩

def nF : AV := .tup [.str [], .nils, .bool false]
def naV (t : Tr) (i : Int) : AV := match trV t with
  | some K => if 0 ≤ i ∧ i ≤ ((nodesK K).length : Int) - 1 then .tup [.str ((nodesK K).getD i.toNat []), eS (some (nodesK K)), .bool true] else nF
  | none => nF
theorem ow_nF {h : H} {x : AV} {G : Nat → Prop} (ho : Ow h [x] [nF] G) : x = nF := by
  obtain ⟨cs, rfl, h1⟩ := Ow.openTup (show Ow h [x] [.tup _] G from ho)
  rw [ow_atoms_eqT h1 (by simp [M.atom])]
  rfl
theorem nF_ow {h : H} {G : Nat → Prop} : Ow h [nF] [nF] G := (Ow.atom rfl (.atom rfl (.atom rfl .nil)) : Ow h [.str [], .nils, .bool false] [.str [], .nils, .bool false] G).tupOf
theorem ow_na {h : H} {x : AV} {s : Str} {N : List Str} {G : Nat → Prop} (ho : Ow h [x] [.tup [.str s, eS (some N), .bool true]] G) : ∃ b, x = .tup [.str s, .sl b 0 1 N.length N.length, .bool true] ∧ G b ∧ h.cells b = some (N.map .str) := by
  obtain ⟨cs, rfl, h1⟩ := Ow.openTup ho
  have hl : cs.length = 3 := h1.len.symm
  match cs, hl, h1 with
  | [x1, x2, x3], _, h1 =>
    obtain ⟨_, F, f1, h2, _, e1⟩ := h1.uncons
    obtain ⟨F2, F3, f2, h3, e2, e3⟩ := h2.uncons
    have a1 : x1 = .str s := f1.atomOf rfl
    have a3 : x3 = .bool true := h3.atomOf rfl
    obtain ⟨b, rfl, hb, hc⟩ := ow_strs f2
    subst a1 a3
    exact ⟨b, rfl, (e1 b (e2 b hb)).1, hc⟩
theorem own_zF {n : Nat} : Own n zF := own_tup (own_cons_ own_int (own_cons_ own_bool own_nil_))
theorem own_chR {n : Nat} {N : List Str} {s : Str} : Own n (chR N s) := by
  unfold chR
  split
  · exact own_zF
  · exact own_tup (own_cons_ own_int (own_cons_ own_bool own_nil_))
theorem free_zF : Free zF := free_tup (free_cons_ free_int (free_cons_ free_bool free_nil_))
theorem free_chR {N : List Str} {s : Str} : Free (chR N s) := by
  unfold chR
  split
  · exact free_zF
  · exact free_tup (free_cons_ free_int (free_cons_ free_bool free_nil_))
theorem chR_in {N : List Str} {s : Str} (h : s ∈ N) : chR N s = .tup [.int .i64 (fndI N s), .bool true] := by
  unfold chR
  rw [if_neg (fun h5 => fnd_neg.1 h5 h)]

def fnV (t : Tr) (s : Str) : AV := match trV t with
  | some K => chR (nodesK K) s
  | none => zF
theorem chR_nil {s : Str} : chR [] s = zF := by
  unfold chR
  rw [if_pos (by rw [fnd_no (by simp)]; decide)]

theorem cnt_ends {t : Tr} {K : List Str} (h : TrI t K) {i : Nat} (hi : i ≤ (nodesK K).length) : ((List.range i).filter (numW (lI t.en.words)).testBit).length = (((nodesK K).take i).filter fun x => decide (x ∈ K)).length := by
  have h1 := endsTo_filter (P := nodesK K) (g := atB t.en) (p := fun x => decide (x ∈ K)) i hi fun j hj => h.at_ (by omega)
  rw [← h1]
  unfold endsTo
  rw [List.length_map]
  rfl
theorem tx_at {t : Tr} {K : List Str} (h : TrI t K) {s : Str} {i : Nat} (hf : fndI (nodesK K) s = i) : i < (nodesK K).length ∧ atB t.en i = decide (s ∈ K) := by
  have hi := fnd_hi (l := nodesK K) (s := s)
  have hl : i < (nodesK K).length := by omega
  have hm : s ∈ nodesK K := by
    apply Classical.byContradiction
    intro h5
    rw [fnd_no h5] at hf
    omega
  obtain ⟨j, h1, _, h3, _⟩ := fnd_in hm
  have : j = i := by omega
  subst this
  exact ⟨hl, by rw [h.at_ hl, h3]⟩
theorem TrI.words {t : Tr} {K : List Str} (h : TrI t K) : okBt t.en = true := (okT0_in h.ok0).2.1

/-- What a directory holds after so many words. -/
def supT (B : Nat) : Nat → List Int
  | 0 => []
  | k + 1 => supT B k ++ if k % 4 = 0 then [(cntB B (16 * k) : Int)] else []
def blkT (B : Nat) : Nat → List Int
  | 0 => []
  | k + 1 => blkT B k ++ [(cntB B (16 * k) : Int) - (cntB B (64 * (k / 4)) : Int)]
def w16 (k : Nat) : Nat := 16 * k
def alT (B n k : Nat) : Int := (cntB B (min (16 * k) n) : Nat)
def suT (B k : Nat) : Int := if k = 0 then 0 else (cntB B (64 * ((k - 1) / 4)) : Nat)
/-- A vector with its directory. -/
def eRk (n m B : Nat) : AV := .agg [.int .i64 n, eI (some (wordsN B m)), eI (some (supT B m)), eI (some (blkT B m))]
theorem free_eRk {n m B : Nat} : Free (eRk n m B) := free_agg (free_cons_ free_int (free_cons_ free_eI (free_cons_ free_eI (free_cons_ free_eI free_nil_))))
theorem sup_len {B : Nat} : ∀ {k : Nat}, (supT B k).length ≤ k
  | 0 => by simp [supT]
  | k + 1 => by
    have := sup_len (B := B) (k := k)
    unfold supT
    split <;> simp <;> omega
theorem blk_len {B : Nat} : ∀ {k : Nat}, (blkT B k).length = k
  | 0 => rfl
  | k + 1 => by
    have := blk_len (B := B) (k := k)
    unfold blkT
    simp
    omega
theorem sup_pos {B : Nat} : ∀ {k : Nat}, 1 ≤ k → supT B k ≠ []
  | 1, _ => by simp [supT]
  | k + 2, _ => by
    have := sup_pos (B := B) (k := k + 1) (by omega)
    unfold supT
    simp [this]
theorem cntB_mono {B a : Nat} : ∀ {b : Nat}, a ≤ b → cntB B a ≤ cntB B b
  | 0, h => by
    have : a = 0 := by omega
    subst this
    exact Nat.le_refl _
  | b + 1, h => by
    rcases Nat.lt_or_ge a (b + 1) with h5 | h5
    · have := cntB_mono (B := B) (show a ≤ b by omega)
      rw [cntB_succ]
      omega
    · rw [show a = b + 1 by omega]
      exact Nat.le_refl _
theorem cntB_on {B i : Nat} (h : B.testBit i = true) : cntB B (i + 1) = cntB B i + 1 := by rw [cntB_succ, h, if_pos rfl]
theorem cntB_off {B i : Nat} (h : B.testBit i = false) : cntB B (i + 1) = cntB B i := by rw [cntB_succ, h, if_neg (by simp), Nat.add_zero]
/-- A directory that is filled: its box, the words, two lists. -/
def RkI (h g : H) (n : Nat) (W : List Int) (b3 bc : Nat) (v1 : AV) (L1 : List Int) (v2 : AV) (L2 : List Int) : Prop :=
  h.length + 2 ≤ b3 ∧ h.length + 2 ≤ bc ∧ b3 ≠ bc ∧ h.length ≤ g.length ∧ g.cells h.length = some [.int .i64 n, eI (some W)] ∧ g.cells (h.length + 1) = some [.int .i64 0, .nils, .nils, .nils] ∧
  g.cells b3 = some [.int .i64 n, .sl bc 0 1 W.length W.length, v1, v2] ∧ g.cells bc = some (W.map (.int .i64)) ∧
  ∃ B1 B2, S1 g 1 v1 L1.length (L1.map (.int .i64)) B1 ∧ S1 g 1 v2 L2.length (L2.map (.int .i64)) B2 ∧ (∀ k ∈ B1, h.length + 2 ≤ k ∧ k ≠ b3 ∧ k ≠ bc ∧ k ∉ B2) ∧ ∀ k ∈ B2, h.length + 2 ≤ k ∧ k ≠ b3 ∧ k ≠ bc
theorem RkI.ones {h g : H} {n b3 bc : Nat} {W L1 L2 : List Int} {v1 v2 : AV} (hI : RkI h g n W b3 bc v1 L1 v2 L2) : one v1 = true ∧ cellsOf v1 = [v1] ∧ one v2 = true ∧ cellsOf v2 = [v2] := by
  obtain ⟨_, _, _, _, _, _, _, _, B1, B2, h1, h2, _⟩ := hI
  exact ⟨h1.one_.1, h1.one_.2, h2.one_.1, h2.one_.2⟩
theorem RkI.app1 {h g : H} {n b3 bc : Nat} {W L1 L2 : List Int} {v1 v2 : AV} {q : Int} {pm : Nat → Prop} {Q : AV → H → Prop} (hI : RkI h g n W b3 bc v1 L1 v2 L2) (hpm : ∀ k, h.length ≤ k → pm k) (hN : L1.length ≤ 1000000)
    (hQ : ∀ v' g2, RkI h (wr g2 b3 [.int .i64 n, .sl bc 0 1 W.length W.length, v', v2]) n W b3 bc v' (L1 ++ [q]) v2 L2 → g2.cells b3 = some [.int .i64 n, .sl bc 0 1 W.length W.length, v1, v2] → b3 < g2.length → one v' = true → cellsOf v' = [v'] → Q v' g2) : apA pm (g ++ [some (.cells [.int .i64 q])]) Q 1 8 (some ([.int .i64 q], 1)) v1 := by
  obtain ⟨p1, p2, p3, p0, p4, p5, p6, p7, B1, B2, q1, q2, q3, q4⟩ := hI
  have l4 := cells_lt p4
  have l5 := cells_lt p5
  have l6 := cells_lt p6
  have l7 := cells_lt p7
  refine (q1.frame (h' := g ++ _) fun k hk => List.getElem?_append_left (q1.lt k hk)).app0 (new := [.int .i64 q]) (k := 1) (by_ := 8) (fun k hk => hpm k (by have := (q3 k hk).1; omega)) rfl (by omega) fun w2 g2 C2 a1 a2 a3 a4 a5 => ?_
  simp only [List.length_append, List.length_cons, List.length_nil] at a2 a3 a4
  have hk2 : ∀ k, k < g.length → k ∉ B1 → g2[k]? = g[k]? := fun k hk hn => (a3 k (by omega) hn).trans (List.getElem?_append_left hk)
  have hn0 : ∀ k, k < h.length + 2 ∨ k = b3 ∨ k = bc ∨ k ∈ B2 → k ∉ B1 := fun k hk hb => by
    have := q3 k hb
    rcases hk with h5 | h5 | h5 | h5
    · omega
    · exact this.2.1 h5
    · exact this.2.2.1 h5
    · exact this.2.2.2 h5
  have hwk : ∀ k, k ≠ b3 → (wr g2 b3 [.int .i64 n, .sl bc 0 1 W.length W.length, w2, v2])[k]? = g2[k]? := fun k hk => by
    unfold wr
    rw [List.getElem?_set_ne (Ne.symm hk)]
  have hC2 : ∀ k ∈ C2, h.length + 2 ≤ k ∧ k ≠ b3 ∧ k ≠ bc ∧ k ∉ B2 := fun k hk => by
    rcases a4 k hk with h5 | h5
    · exact q3 k h5
    · exact ⟨by omega, by omega, by omega, fun h7 => by have := q2.lt k h7; omega⟩
  have ho := a1.one_
  refine hQ w2 g2 ⟨p1, p2, p3, by simp [wr]; omega, cells_keep ((hwk _ (by omega)).trans (hk2 _ l4 (hn0 _ (.inl (by omega))))) p4, cells_keep ((hwk _ (by omega)).trans (hk2 _ l5 (hn0 _ (.inl (by omega))))) p5, cells_wr2 (by omega), cells_keep ((hwk _ (Ne.symm p3)).trans (hk2 _ l7 (hn0 _ (.inr (.inr (.inl rfl)))))) p7, C2, B2, ?_, q2.frame (h' := wr g2 b3 _) fun k hk => (hwk k (q4 k hk).2.1).trans (hk2 k (q2.lt k hk) (hn0 _ (.inr (.inr (.inr hk))))), hC2, q4⟩ (cells_keep (hk2 _ l6 (hn0 _ (.inr (.inl rfl)))) p6) (by omega) ho.1 ho.2
  have := a1.frame (h' := wr g2 b3 [.int .i64 n, .sl bc 0 1 W.length W.length, w2, v2]) fun k hk => hwk k (hC2 k hk).2.1
  simpa using this
theorem RkI.app2 {h g : H} {n b3 bc : Nat} {W L1 L2 : List Int} {v1 v2 : AV} {q : Int} {pm : Nat → Prop} {Q : AV → H → Prop} (hI : RkI h g n W b3 bc v1 L1 v2 L2) (hpm : ∀ k, h.length ≤ k → pm k) (hN : L2.length ≤ 1000000)
    (hQ : ∀ v' g2, RkI h (wr g2 b3 [.int .i64 n, .sl bc 0 1 W.length W.length, v1, v']) n W b3 bc v1 L1 v' (L2 ++ [q]) → g2.cells b3 = some [.int .i64 n, .sl bc 0 1 W.length W.length, v1, v2] → b3 < g2.length → one v' = true → cellsOf v' = [v'] → Q v' g2) : apA pm (g ++ [some (.cells [.int .i64 q])]) Q 1 8 (some ([.int .i64 q], 1)) v2 := by
  obtain ⟨p1, p2, p3, p0, p4, p5, p6, p7, B1, B2, q1, q2, q3, q4⟩ := hI
  have l4 := cells_lt p4
  have l5 := cells_lt p5
  have l6 := cells_lt p6
  have l7 := cells_lt p7
  refine (q2.frame (h' := g ++ _) fun k hk => List.getElem?_append_left (q2.lt k hk)).app0 (new := [.int .i64 q]) (k := 1) (by_ := 8) (fun k hk => hpm k (by have := (q4 k hk).1; omega)) rfl (by omega) fun w2 g2 C2 a1 a2 a3 a4 a5 => ?_
  simp only [List.length_append, List.length_cons, List.length_nil] at a2 a3 a4
  have hk2 : ∀ k, k < g.length → k ∉ B2 → g2[k]? = g[k]? := fun k hk hn => (a3 k (by omega) hn).trans (List.getElem?_append_left hk)
  have hn0 : ∀ k, k < h.length + 2 ∨ k = b3 ∨ k = bc ∨ k ∈ B1 → k ∉ B2 := fun k hk hb => by
    have := q4 k hb
    rcases hk with h5 | h5 | h5 | h5
    · omega
    · exact this.2.1 h5
    · exact this.2.2 h5
    · exact (q3 k h5).2.2.2 hb
  have hwk : ∀ k, k ≠ b3 → (wr g2 b3 [.int .i64 n, .sl bc 0 1 W.length W.length, v1, w2])[k]? = g2[k]? := fun k hk => by
    unfold wr
    rw [List.getElem?_set_ne (Ne.symm hk)]
  have hC2 : ∀ k ∈ C2, h.length + 2 ≤ k ∧ k ≠ b3 ∧ k ≠ bc := fun k hk => by
    rcases a4 k hk with h5 | h5
    · exact q4 k h5
    · exact ⟨by omega, by omega, by omega⟩
  have hC3 : ∀ k ∈ B1, k ∉ C2 := fun k hk hc => by
    rcases a4 k hc with h5 | h5
    · exact (q3 k hk).2.2.2 h5
    · have := q1.lt k hk
      omega
  have ho := a1.one_
  refine hQ w2 g2 ⟨p1, p2, p3, by simp [wr]; omega, cells_keep ((hwk _ (by omega)).trans (hk2 _ l4 (hn0 _ (.inl (by omega))))) p4, cells_keep ((hwk _ (by omega)).trans (hk2 _ l5 (hn0 _ (.inl (by omega))))) p5, cells_wr2 (by omega), cells_keep ((hwk _ (Ne.symm p3)).trans (hk2 _ l7 (hn0 _ (.inr (.inr (.inl rfl)))))) p7, B1, C2, q1.frame (h' := wr g2 b3 _) fun k hk => (hwk k (q3 k hk).2.1).trans (hk2 k (q1.lt k hk) (hn0 _ (.inr (.inr (.inr hk))))), ?_, fun k hk => ⟨(q3 k hk).1, (q3 k hk).2.1, (q3 k hk).2.2.1, hC3 k hk⟩, hC2⟩ (cells_keep (hk2 _ l6 (hn0 _ (.inr (.inl rfl)))) p6) (by omega) ho.1 ho.2
  have := a1.frame (h' := wr g2 b3 [.int .i64 n, .sl bc 0 1 W.length W.length, v1, w2]) fun k hk => hwk k (hC2 k hk).2.1
  simpa using this
theorem S1.vwIn {h : H} {n0 n : Nat} {v : AV} {l : List Int} {B : List Nat} (hs : S1 h 1 v n (l.map (.int .i64)) B) (hb : ∀ b ∈ B, n0 ≤ b) (hl : l ≠ []) : Vw h n0 v (eI (some l)) := by
  have hn : n = l.length := by have := hs.1; simp at this; omega
  subst hn
  rcases hs.2 with ⟨rfl, h0, rfl⟩ | ⟨b, rfl, rfl, hc⟩
  · exact absurd (List.eq_nil_of_length_eq_zero h0) hl
  · exact vw_all (hb b (by simp)) hc (by simp) (one_map fun _ => rfl) (free_map_ fun _ => free_int)
/-- What is seen of it, once it is in the result's box. -/
theorem RkI.fin {h g : H} {n b3 bc : Nat} {W L1 L2 : List Int} {v1 v2 : AV} (hI : RkI h g n W b3 bc v1 L1 v2 L2) (h1 : L1 ≠ []) (h2 : L2 ≠ []) (cs : List AV) : Vw (wr g (h.length + 1) cs) h.length (.agg [.int .i64 n, .sl bc 0 1 W.length W.length, v1, v2]) (.agg [.int .i64 n, eI (some W), eI (some L1), eI (some L2)]) := by
  obtain ⟨p1, p2, p3, p0, p4, p5, p6, p7, B1, B2, q1, q2, q3, q4⟩ := hI
  have hwk : ∀ k, k ≠ h.length + 1 → (wr g (h.length + 1) cs)[k]? = g[k]? := fun k hk => by
    unfold wr
    rw [List.getElem?_set_ne (Ne.symm hk)]
  have w1 := S1.vwIn (q1.frame (h' := wr g (h.length + 1) cs) fun k hk => hwk k (by have := (q3 k hk).1; omega)) (n0 := h.length) (fun k hk => by have := (q3 k hk).1; omega) h1
  have w2 := S1.vwIn (q2.frame (h' := wr g (h.length + 1) cs) fun k hk => hwk k (by have := (q4 k hk).1; omega)) (n0 := h.length) (fun k hk => by have := (q4 k hk).1; omega) h2
  have w0 : Vw (wr g (h.length + 1) cs) h.length (.sl bc 0 1 W.length W.length) (eI (some W)) := vw_all (by omega) (cells_keep (hwk bc (by omega)) p7) (by simp) (one_map fun _ => rfl) (free_map_ fun _ => free_int)
  refine .agg rfl fun j y t hy ht => ?_
  rcases j with _ | _ | _ | _ | j
  · simp at hy ht
    subst hy ht
    exact .free free_int
  · simp at hy ht
    subst hy ht
    exact w0
  · simp at hy ht
    subst hy ht
    exact w1
  · simp at hy ht
    subst hy ht
    exact w2
  · simp at hy

set_option maxHeartbeats 4000000 in
theorem c_impl_ranked (n m B : Nat) (hm : (((n : Int) + 15) / 16) = (m : Int)) (h1 : 1 ≤ n) (hn : n ≤ 4096) : Fn Tryz.prog 83 [eB ⟨n, some (wordsN B m)⟩] (· = eRk n m B) := by
  refine Fn.froze fun h => ?_
  refine enter (by kernel_rfl) e83 (by kernel_rfl) rfl fun hok => ?_
  simp only [r83, initEnv_1]
  have hle := @cntB_le B
  (try (simp (disch := first | omega | (simp <;> omega) | fail) only [push_cast, ↓reduceIte, Nat.reduceEqDiff, Nat.reduceAdd, Nat.reduceMul, Nat.reduceSub, Nat.reduceLT, Int.reduceToNat]))
  refine (c_impl_cloneBits_own n (wordsN B m) (by rw [wordsN_len]; omega) _).mono (fun x g0 hx => ?_) (fun _ _ h => h.elim)
  obtain ⟨bc, rfl, hb1, ⟨p, hp⟩, hc⟩ := hx
  have hbc := cells_lt hc
  have hg0 := congrArg List.length hp
  simp only [List.length_append, List.length_cons, List.length_nil] at hb1 hg0
  have hbx : g0.cells h.length = some [.int .i64 n, eI (some (wordsN B m))] := by rw [hp]; exact cells_app (by rw [cells_h0]; rfl)
  have hbr : g0.cells (h.length + 1) = some [.int .i64 0, .nils, .nils, .nils] := by rw [hp]; exact cells_app (by rw [cells_hk]; rfl)
  have hI0 : RkI h (g0 ++ [some (.cells [.int .i64 n, .sl bc 0 1 (wordsN B m).length (wordsN B m).length, .nils, .nils])]) n (wordsN B m) g0.length bc .nils [] .nils [] :=
    ⟨by omega, by omega, by omega, by simp; omega, cells_app hbx, cells_app hbr, by rw [cells_h0]; rfl, cells_app hc, [], [], S1.nil, S1.nil, by simp, by simp⟩
  have hpm0 : (h.length ≤ g0.length) = True := eq_true (by omega)
  clear hp hbx hbr hc hg0 p hbc
  (try (simp (disch := first | omega | (simp <;> omega) | fail) only [push_cast, ↓reduceIte, Nat.reduceEqDiff, Nat.reduceAdd, Nat.reduceMul, Nat.reduceSub, Nat.reduceLT, Int.reduceToNat, hpm0]))
  generalize g0 ++ [some (AObj.cells [AV.int IntKind.i64 n, AV.sl bc 0 1 (wordsN B m).length (wordsN B m).length, AV.nils, AV.nils])] = g1 at *
  generalize g0.length = b3 at *
  clear hb1 g0
  refine T_for m (fun k e h' => ∃ v1 v2, Pins e [(1, .adr h.length 0), (2, .adr (h.length + 1) 0), (3, .adr b3 0), (4, .int .i64 (alT B n k)), (5, .int .i64 (suT B k)), (6, .int .i64 ((w16 k : Nat) : Int)), (7, .int .i64 k)] ∧ RkI h h' n (wordsN B m) b3 bc v1 (supT B k) v2 (blkT B k)) ?_ ?_
  · refine ⟨.nils, .nils, ?_⟩
    (try (simp (disch := first | omega | (simp <;> omega) | fail) only [push_cast, ↓reduceIte, Nat.reduceEqDiff, Nat.reduceAdd, Nat.reduceMul, Nat.reduceSub, Nat.reduceLT, Int.reduceToNat]))
    all_goals (try simp [cntB, alT, suT])
    all_goals (try exact ⟨rfl, hI0⟩)
  rintro k e h' hk ⟨v1, v2, hp, hI⟩
  refine T_pins hp fun e => ?_
  obtain ⟨o1, o2, o3, o4⟩ := hI.ones
  have c0 := hI.2.2.2.2.1
  have c3 := hI.2.2.2.2.2.2.1
  have hb3 := hI.1
  have hsl := @sup_len B k
  have hbl := @blk_len B k
  have hw0 : w16 k = 16 * k := rfl
  have hw9 : w16 (k + 1) = 16 * (k + 1) := rfl
  by_cases hkm : k < m
  · have hkn : 16 * k < n := by omega
    have hkn' : (((w16 k : Nat) : Int) < (n : Int)) = True := eq_true (by omega)
    have hal : alT B n k = (cntB B (16 * k) : Int) := by unfold alT; rw [show min (16 * k) n = 16 * k by omega]
    rw [hal]
    have hfr : ∀ x ∈ [AV.int .i64 (n : Int), eI (some (wordsN B m))], Free x := free_cons_ free_int (free_cons_ free_eI free_nil_)
    have hpm3 : (h.length ≤ b3) = True := eq_true (by omega)
    obtain ⟨mN, hmN⟩ : ∃ mN, mN = min (16 * (k + 1)) n := ⟨_, rfl⟩
    have hcr := c_impl_Bits_countR (some (wordsN B m)) B m (w16 k) mN [.int .i64 n, eI (some (wordsN B m))] 0 rfl rfl (by omega) (by omega) (by omega)
    have hmi : (if (n : Int) < ((w16 (k + 1) : Nat) : Int) then (n : Int) else ((w16 (k + 1) : Nat) : Int)) = (mN : Int) := by split <;> omega
    have hal2 : alT B n (k + 1) = (cntB B mN : Int) := by rw [hmN]; rfl
    rw [show cntB B (w16 k) = cntB B (16 * k) from rfl] at hcr
    have hl1 := @hle (16 * k)
    have hl2 := @hle mN
    have hl3 := @hle (64 * (k / 4))
    have hmo := @cntB_mono B (64 * (k / 4)) (16 * k) (by omega)
    have hmo2 := @cntB_mono B (16 * k) mN (by omega)
    have hs5 : suT B (k + 1) = (cntB B (64 * (k / 4)) : Int) := by unfold suT; rw [if_neg (by omega), Nat.add_sub_cancel]
    have hk1 : ((w16 k : Nat) : Int) + 16 = ((w16 (k + 1) : Nat) : Int) := by omega
    have hsu : supT B (k + 1) = supT B k ++ if k % 4 = 0 then [(cntB B (16 * k) : Int)] else [] := rfl
    have hbu : blkT B (k + 1) = blkT B k ++ [(cntB B (16 * k) : Int) - (cntB B (64 * (k / 4)) : Int)] := rfl
    by_cases hk4 : k % 4 = 0
    · have hk4' : (((w16 k : Nat) : Int) % 64 = 0) = True := eq_true (by omega)
      have e64 : 64 * (k / 4) = 16 * k := by omega
      rw [if_pos hk4] at hsu
      rw [e64] at hbu hl3 hmo hs5
      (try (simp (disch := first | omega | (simp <;> omega) | fail) only [push_cast, ↓reduceIte, Nat.reduceEqDiff, Nat.reduceAdd, Nat.reduceMul, Nat.reduceSub, Nat.reduceLT, Int.reduceToNat, hkn', hk4', c0, c3]))
      refine hI.app1 (fun c hc => Or.inr (by omega)) (by omega) fun w1 g2 hI2 r3 hb2 s1 s2 => ?_
      have c32 := hI2.2.2.2.2.2.2.1
      rw [← hsu] at hI2
      (try (simp (disch := first | omega | (simp <;> omega) | fail) only [push_cast, ↓reduceIte, Nat.reduceEqDiff, Nat.reduceAdd, Nat.reduceMul, Nat.reduceSub, Nat.reduceLT, Int.reduceToNat, r3, hpm3, s1, s2, o3, o4, c32]))
      refine hI2.app2 (fun c hc => Or.inr (by omega)) (by rw [hbl]; omega) fun w2 g3 hI3 r4 hb4 s3 s4 => ?_
      have c03 := hI3.2.2.2.2.1
      rw [← hbu] at hI3
      (try (simp (disch := first | omega | (simp <;> omega) | fail) only [push_cast, ↓reduceIte, Nat.reduceEqDiff, Nat.reduceAdd, Nat.reduceMul, Nat.reduceSub, Nat.reduceLT, Int.reduceToNat, r4, hpm3, s1, s2, s3, s4, c03, hk1, hmi]))
      refine hcr.lendL (.adr c03 hfr (.free free_int (.free free_int .nil))) own_int ?_
      (try (simp (disch := first | omega | (simp <;> omega) | fail) only [push_cast, ↓reduceIte, Nat.reduceEqDiff, Nat.reduceAdd, Nat.reduceMul, Nat.reduceSub, Nat.reduceLT, Int.reduceToNat, hk1, hs5, hal2]))
      all_goals (try exact ⟨_, _, hI3⟩)
    · have hk4' : (((w16 k : Nat) : Int) % 64 = 0) = False := eq_false (by omega)
      rw [if_neg hk4, List.append_nil] at hsu
      have e5 : suT B k = (cntB B (64 * (k / 4)) : Int) := by unfold suT; rw [if_neg (by omega), show (k - 1) / 4 = k / 4 by omega]
      rw [e5]
      (try (simp (disch := first | omega | (simp <;> omega) | fail) only [push_cast, ↓reduceIte, Nat.reduceEqDiff, Nat.reduceAdd, Nat.reduceMul, Nat.reduceSub, Nat.reduceLT, Int.reduceToNat, hkn', hk4', c0, c3]))
      refine hI.app2 (fun c hc => Or.inr (by omega)) (by rw [hbl]; omega) fun w2 g3 hI3 r4 hb4 s3 s4 => ?_
      have c03 := hI3.2.2.2.2.1
      rw [← hbu, ← hsu] at hI3
      (try (simp (disch := first | omega | (simp <;> omega) | fail) only [push_cast, ↓reduceIte, Nat.reduceEqDiff, Nat.reduceAdd, Nat.reduceMul, Nat.reduceSub, Nat.reduceLT, Int.reduceToNat, r4, hpm3, o1, o2, s3, s4, c03, hk1, hmi]))
      refine hcr.lendL (.adr c03 hfr (.free free_int (.free free_int .nil))) own_int ?_
      (try (simp (disch := first | omega | (simp <;> omega) | fail) only [push_cast, ↓reduceIte, Nat.reduceEqDiff, Nat.reduceAdd, Nat.reduceMul, Nat.reduceSub, Nat.reduceLT, Int.reduceToNat, hk1, hs5, hal2]))
      all_goals (try exact ⟨_, _, hI3⟩)
  · have hkm : k = m := by omega
    subst hkm
    have hkn' : (((w16 k : Nat) : Int) < (n : Int)) = False := eq_false (by omega)
    have hf := hI.fin (sup_pos (by omega)) (fun h5 => by have := congrArg List.length h5; rw [hbl] at this; simp at this; omega)
    have c1 := hI.2.2.2.2.2.1
    have hw := fun cs => cells_wr2 (cells_lt c1) (cs := cs)
    have hpm1 : (h.length ≤ h.length + 1) = True := by simp
    (try (simp (disch := first | omega | (simp <;> omega) | fail) only [push_cast, ↓reduceIte, Nat.reduceEqDiff, Nat.reduceAdd, Nat.reduceMul, Nat.reduceSub, Nat.reduceLT, Int.reduceToNat, hkn', c0, c3, c1, hw, hpm1, o1, o2, o3, o4]))
    all_goals (try exact hf _)

theorem c_impl_BuildRanked (n m B : Nat) (hm : (((n : Int) + 15) / 16) = (m : Int)) (h1 : 1 ≤ n) (hn : n ≤ 4096) (hk : okBt ⟨n, some (wordsN B m)⟩ = true) : Fn Tryz.prog 45 [eB ⟨n, some (wordsN B m)⟩] (· = .tup [eRk n m B, .bool true]) := by
  refine Fn.of (free_tup (free_cons_ free_eRk (free_cons_ free_bool free_nil_))) fun h => ?_
  have hb := c_impl_IsBits ⟨n, some (wordsN B m)⟩
  rw [hk] at hb
  have hr := c_impl_ranked n m B hm h1 hn
  unfold eRk at hr ⊢
  refine enter (by kernel_rfl) e45 (by kernel_rfl) rfl fun hok => ?_
  simp only [r45, initEnv_1]
  (try (simp (disch := first | omega | (simp <;> omega) | fail) only [push_cast, ↓reduceIte, Nat.reduceEqDiff, Nat.reduceAdd, Nat.reduceMul, Nat.reduceSub, Nat.reduceLT, Int.reduceToNat]))
  refine hb.call ?_
  (try (simp (disch := first | omega | (simp <;> omega) | fail) only [push_cast, ↓reduceIte, Nat.reduceEqDiff, Nat.reduceAdd, Nat.reduceMul, Nat.reduceSub, Nat.reduceLT, Int.reduceToNat]))
  refine hr.call ?_
  (try (simp (disch := first | omega | (simp <;> omega) | fail) only [push_cast, ↓reduceIte, Nat.reduceEqDiff, Nat.reduceAdd, Nat.reduceMul, Nat.reduceSub, Nat.reduceLT, Int.reduceToNat]))

theorem c_impl_IsRanked (n m B : Nat) (hm : (((n : Int) + 15) / 16) = (m : Int)) (h1 : 1 ≤ n) (hn : n ≤ 4096) (hk : okBt ⟨n, some (wordsN B m)⟩ = true) : Fn Tryz.prog 86 [eRk n m B] (· = .bool true) := by
  refine Fn.of free_bool fun h => ?_
  have hb := c_impl_IsBits ⟨n, some (wordsN B m)⟩
  rw [hk] at hb
  have hr := c_impl_ranked n m B hm h1 hn
  have he := fun l => c_slices_Equal_int (some l) (some l)
  unfold eRk at hr ⊢
  refine enter (by kernel_rfl) e86 (by kernel_rfl) rfl fun hok => ?_
  simp only [r86, initEnv_1]
  (try (simp (disch := first | omega | (simp <;> omega) | fail) only [push_cast, ↓reduceIte, Nat.reduceEqDiff, Nat.reduceAdd, Nat.reduceMul, Nat.reduceSub, Nat.reduceLT, Int.reduceToNat]))
  refine hb.call ?_
  (try (simp (disch := first | omega | (simp <;> omega) | fail) only [push_cast, ↓reduceIte, Nat.reduceEqDiff, Nat.reduceAdd, Nat.reduceMul, Nat.reduceSub, Nat.reduceLT, Int.reduceToNat]))
  refine hr.call ?_
  (try (simp (disch := first | omega | (simp <;> omega) | fail) only [push_cast, ↓reduceIte, Nat.reduceEqDiff, Nat.reduceAdd, Nat.reduceMul, Nat.reduceSub, Nat.reduceLT, Int.reduceToNat]))
  refine (he _).call ?_
  rw [decide_eq_true rfl]
  (try (simp (disch := first | omega | (simp <;> omega) | fail) only [push_cast, ↓reduceIte, Nat.reduceEqDiff, Nat.reduceAdd, Nat.reduceMul, Nat.reduceSub, Nat.reduceLT, Int.reduceToNat]))
  refine (he _).call ?_
  rw [decide_eq_true rfl]
  (try (simp (disch := first | omega | (simp <;> omega) | fail) only [push_cast, ↓reduceIte, Nat.reduceEqDiff, Nat.reduceAdd, Nat.reduceMul, Nat.reduceSub, Nat.reduceLT, Int.reduceToNat]))

theorem c_impl_selected (n m B p : Nat) (hm : (((n : Int) + 15) / 16) = (m : Int)) (hn : n ≤ 4096) (hk : okBt ⟨n, some (wordsN B m)⟩ = true) (hp : p < n) (hpb : B.testBit p = true) : Fn Tryz.prog 84 [eRk n m B, .int .i64 (cntB B p), .bool true] (· = .tup [.int .i64 p, .bool true]) := by
  refine Fn.of (free_tup (free_cons_ free_int (free_cons_ free_bool free_nil_))) fun h => ?_
  have hr := c_impl_IsRanked n m B hm (by omega) hn hk
  have hle := @cntB_le B
  have hmo := @cntB_mono B
  unfold eRk at hr ⊢
  have hfr : ∀ x ∈ [AV.int .i64 (n : Int), eI (some (wordsN B m)), eI (some (supT B m)), eI (some (blkT B m))], Free x := free_cons_ free_int (free_cons_ free_eI (free_cons_ free_eI (free_cons_ free_eI free_nil_)))
  have b1 : H.cells (h ++ [some (.cells [.int .i64 n, eI (some (wordsN B m)), eI (some (supT B m)), eI (some (blkT B m))])]) h.length = some [.int .i64 n, eI (some (wordsN B m)), eI (some (supT B m)), eI (some (blkT B m))] := by rw [cells_h0]; rfl
  refine enter (by kernel_rfl) e84 (by kernel_rfl) rfl fun hok => ?_
  simp only [r84, initEnv_3]
  (try (simp (disch := first | omega | (simp <;> omega) | fail) only [push_cast, ↓reduceIte, Nat.reduceEqDiff, Nat.reduceAdd, Nat.reduceMul, Nat.reduceSub, Nat.reduceLT, Int.reduceToNat]))
  refine hr.call ?_
  (try (simp (disch := first | omega | (simp <;> omega) | fail) only [push_cast, ↓reduceIte, Nat.reduceEqDiff, Nat.reduceAdd, Nat.reduceMul, Nat.reduceSub, Nat.reduceLT, Int.reduceToNat]))
  generalize hG : h ++ [some (AObj.cells [AV.int .i64 (n : Int), eI (some (wordsN B m)), eI (some (supT B m)), eI (some (blkT B m))])] = g at *
  refine T_for n (fun i e h' => Pins e [(1, .int .i64 ((cntB B p : Int) - (cntB B i : Int))), (2, .bool true), (3, .adr h.length 0), (14, .int .i64 n), (15, .int .i64 i)] ∧ h' = g ∧ i ≤ p) ?_ ?_
  · (try (simp (disch := first | omega | (simp <;> omega) | fail) only [push_cast, ↓reduceIte, Nat.reduceEqDiff, Nat.reduceAdd, Nat.reduceMul, Nat.reduceSub, Nat.reduceLT, Int.reduceToNat]))
    all_goals (try simp [cntB])
  rintro i e h' hi ⟨hpn, rfl, hip⟩
  refine T_pins hpn fun e => ?_
  have hin : ((i : Int) < (n : Int)) = True := eq_true (by omega)
  have h5 := hmo hip
  have h6 := @hle p
  (try (simp (disch := first | omega | (simp <;> omega) | fail) only [push_cast, ↓reduceIte, Nat.reduceEqDiff, Nat.reduceAdd, Nat.reduceMul, Nat.reduceSub, Nat.reduceLT, Int.reduceToNat, hin]))
  refine (c_impl_Bits_at (some (wordsN B m)) B m i [.int .i64 n, eI (some (wordsN B m)), eI (some (supT B m)), eI (some (blkT B m))] 0 rfl rfl (by omega) (by omega)).lendL (.adr b1 hfr (.free free_int .nil)) own_bool ?_
  cases hb : B.testBit i
  · have h7 := cntB_off hb
    have h8 : i ≠ p := fun h9 => by rw [h9, hpb] at hb; cases hb
    (try (simp (disch := first | omega | (simp <;> omega) | fail) only [push_cast, ↓reduceIte, Nat.reduceEqDiff, Nat.reduceAdd, Nat.reduceMul, Nat.reduceSub, Nat.reduceLT, Int.reduceToNat, h7]))
    all_goals (try omega)
  · have h7 := cntB_on hb
    by_cases hep : i = p
    · subst hep
      (try (simp (disch := first | omega | (simp <;> omega) | fail) only [push_cast, ↓reduceIte, Nat.reduceEqDiff, Nat.reduceAdd, Nat.reduceMul, Nat.reduceSub, Nat.reduceLT, Int.reduceToNat]))
    · have h8 := @hmo (i + 1) p (by omega)
      have h9 : ((cntB B p : Int) - (cntB B i : Int) = 0) = False := eq_false (by omega)
      (try (simp (disch := first | omega | (simp <;> omega) | fail) only [push_cast, ↓reduceIte, Nat.reduceEqDiff, Nat.reduceAdd, Nat.reduceMul, Nat.reduceSub, Nat.reduceLT, Int.reduceToNat, h9, h7]))
      all_goals (try omega)

theorem c_impl_Select1 (n m B p : Nat) (hm : (((n : Int) + 15) / 16) = (m : Int)) (hn : n ≤ 4096) (hk : okBt ⟨n, some (wordsN B m)⟩ = true) (hp : p < n) (hpb : B.testBit p = true) : Fn Tryz.prog 46 [eRk n m B, .int .i64 (cntB B p)] (· = .tup [.int .i64 p, .bool true]) := by
  refine Fn.of (free_tup (free_cons_ free_int (free_cons_ free_bool free_nil_))) fun h => ?_
  have hr := c_impl_selected n m B p hm hn hk hp hpb
  unfold eRk at hr ⊢
  refine enter (by kernel_rfl) e46 (by kernel_rfl) rfl fun hok => ?_
  simp only [r46, initEnv_2]
  (try (simp (disch := first | omega | (simp <;> omega) | fail) only [push_cast, ↓reduceIte, Nat.reduceEqDiff, Nat.reduceAdd, Nat.reduceMul, Nat.reduceSub, Nat.reduceLT, Int.reduceToNat]))
  refine hr.call ?_
  (try (simp (disch := first | omega | (simp <;> omega) | fail) only [push_cast, ↓reduceIte, Nat.reduceEqDiff, Nat.reduceAdd, Nat.reduceMul, Nat.reduceSub, Nat.reduceLT, Int.reduceToNat]))

theorem c_impl_Rank1 (n m B i : Nat) (hm : (((n : Int) + 15) / 16) = (m : Int)) (h1 : 1 ≤ n) (hn : n ≤ 4096) (hk : okBt ⟨n, some (wordsN B m)⟩ = true) (hi : i ≤ n) : Fn Tryz.prog 50 [eRk n m B, .int .i64 i] (· = .tup [.int .i64 (cntB B i), .bool true]) := by
  refine Fn.of (free_tup (free_cons_ free_int (free_cons_ free_bool free_nil_))) fun h => ?_
  have hr := c_impl_IsRanked n m B hm h1 hn hk
  unfold eRk at hr ⊢
  have hfr : ∀ x ∈ [AV.int .i64 (n : Int), eI (some (wordsN B m)), eI (some (supT B m)), eI (some (blkT B m))], Free x := free_cons_ free_int (free_cons_ free_eI (free_cons_ free_eI (free_cons_ free_eI free_nil_)))
  have b1 : H.cells (h ++ [some (.cells [.int .i64 n, eI (some (wordsN B m)), eI (some (supT B m)), eI (some (blkT B m))])]) h.length = some [.int .i64 n, eI (some (wordsN B m)), eI (some (supT B m)), eI (some (blkT B m))] := by rw [cells_h0]; rfl
  refine enter (by kernel_rfl) e50 (by kernel_rfl) rfl fun hok => ?_
  simp only [r50, initEnv_2]
  (try (simp (disch := first | omega | (simp <;> omega) | fail) only [push_cast, ↓reduceIte, Nat.reduceEqDiff, Nat.reduceAdd, Nat.reduceMul, Nat.reduceSub, Nat.reduceLT, Int.reduceToNat]))
  refine hr.call ?_
  (try (simp (disch := first | omega | (simp <;> omega) | fail) only [push_cast, ↓reduceIte, Nat.reduceEqDiff, Nat.reduceAdd, Nat.reduceMul, Nat.reduceSub, Nat.reduceLT, Int.reduceToNat]))
  refine (c_impl_in _ _ _).call ?_
  have h2 : (decide ((0 : Int) ≤ (i : Int)) && decide ((i : Int) ≤ (n : Int))) = true := by
    rw [Bool.and_eq_true, decide_eq_true_eq, decide_eq_true_eq]
    omega
  rw [h2]
  (try (simp (disch := first | omega | (simp <;> omega) | fail) only [push_cast, ↓reduceIte, Nat.reduceEqDiff, Nat.reduceAdd, Nat.reduceMul, Nat.reduceSub, Nat.reduceLT, Int.reduceToNat]))
  refine (c_impl_Bits_count (some (wordsN B m)) B m i [.int .i64 n, eI (some (wordsN B m)), eI (some (supT B m)), eI (some (blkT B m))] 0 rfl rfl (by omega) (by omega)).lendL (.adr b1 hfr (.free free_int (.free free_int .nil))) own_int ?_
  (try (simp (disch := first | omega | (simp <;> omega) | fail) only [push_cast, ↓reduceIte, Nat.reduceEqDiff, Nat.reduceAdd, Nat.reduceMul, Nat.reduceSub, Nat.reduceLT, Int.reduceToNat]))

theorem c_impl_Rank0 (n m B i : Nat) (hm : (((n : Int) + 15) / 16) = (m : Int)) (h1 : 1 ≤ n) (hn : n ≤ 4096) (hk : okBt ⟨n, some (wordsN B m)⟩ = true) (hi : i ≤ n) : Fn Tryz.prog 47 [eRk n m B, .int .i64 i] (· = .tup [.int .i64 ((i : Int) - (cntB B i : Int)), .bool true]) := by
  refine Fn.of (free_tup (free_cons_ free_int (free_cons_ free_bool free_nil_))) fun h => ?_
  have hr := c_impl_Rank1 n m B i hm h1 hn hk hi
  have hle := @cntB_le B i
  unfold eRk at hr ⊢
  refine enter (by kernel_rfl) e47 (by kernel_rfl) rfl fun hok => ?_
  simp only [r47, initEnv_2]
  (try (simp (disch := first | omega | (simp <;> omega) | fail) only [push_cast, ↓reduceIte, Nat.reduceEqDiff, Nat.reduceAdd, Nat.reduceMul, Nat.reduceSub, Nat.reduceLT, Int.reduceToNat]))
  refine hr.call ?_
  (try (simp (disch := first | omega | (simp <;> omega) | fail) only [push_cast, ↓reduceIte, Nat.reduceEqDiff, Nat.reduceAdd, Nat.reduceMul, Nat.reduceSub, Nat.reduceLT, Int.reduceToNat]))

theorem c_impl_IsTrie (t : Tr) : Fn Tryz.prog 85 [eTr t] (· = .bool (trV t).isSome) := by
  refine Fn.of free_bool fun h => ?_
  refine enter (by kernel_rfl) e85 (by kernel_rfl) rfl fun hok => ?_
  simp only [r85, initEnv_1]
  have hn := c_impl_Trie_nodes_o t
  have hnv : noV t = match trV t with | some K => eS (some (nodesK K)) | none => .nils := rfl
  have hfc := @free_cTr t
  rw [hnv] at hn
  clear hnv
  generalize hfv : (trV t).isSome = R
  have hcb0 : H.cells (h ++ [some (.cells (cTr t))]) h.length = some (cTr t) := by rw [cells_h0]; rfl
  obtain ⟨⟨ss, sw⟩, ⟨es, ew⟩, lab⟩ := t
  (try (simp (disch := first | omega | (simp <;> omega) | fail) only [push_cast, ↓reduceIte, Nat.reduceEqDiff, Nat.reduceAdd, Nat.reduceMul, Nat.reduceSub, Nat.reduceLT, Int.reduceToNat]))
  cases hv : trV ⟨⟨ss, sw⟩, ⟨es, ew⟩, lab⟩ with
  | none =>
    rw [hv] at hn hfv
    simp only at hn hfv
    subst hfv
    refine hn.goL (.adr hcb0 hfc .nil) fun x t' g hR hx how => ?_
    subst hR
    have hxn : x = .nils := how.atomOf rfl
    subst hxn
    (try (simp (disch := first | omega | (simp <;> omega) | fail) only [push_cast, ↓reduceIte, Nat.reduceEqDiff, Nat.reduceAdd, Nat.reduceMul, Nat.reduceSub, Nat.reduceLT, Int.reduceToNat]))
    all_goals (try rfl)
  | some K =>
    rw [hv] at hn hfv
    simp only at hn hfv
    generalize nodesK K = N at *
    subst hfv
    refine hn.goL (.adr hcb0 hfc .nil) fun x t' g hR hx how => ?_
    subst hR
    obtain ⟨b, rfl, hb0, hcb⟩ := ow_strs how
    (try (simp (disch := first | omega | (simp <;> omega) | fail) only [push_cast, ↓reduceIte, Nat.reduceEqDiff, Nat.reduceAdd, Nat.reduceMul, Nat.reduceSub, Nat.reduceLT, Int.reduceToNat]))
    all_goals (try rfl)

theorem c_impl_TrieBits (t : Tr) (K : List Str) (hK : trV t = some K) : Fn Tryz.prog 48 [eTr t] (· = .tup [.int .i64 (t.sh.size + t.en.size + 7 * (t.lab.length : Int)), .bool true]) := by
  refine Fn.of (free_tup (free_cons_ free_int (free_cons_ free_bool free_nil_))) fun h => ?_
  refine enter (by kernel_rfl) e48 (by kernel_rfl) rfl fun hok => ?_
  simp only [r48, initEnv_1]
  have hn := c_impl_IsTrie t
  rw [hK, Option.isSome_some] at hn
  have h0 := okT0_in (trV_some hK).ok0
  have h1 := okBt_num h0.1
  have h2 := okBt_num h0.2.1
  have h3 := h0.2.2
  obtain ⟨⟨ss, sw⟩, ⟨es, ew⟩, lab⟩ := t
  simp only at h1 h2 h3
  (try (simp (disch := first | omega | (simp <;> omega) | fail) only [push_cast, ↓reduceIte, Nat.reduceEqDiff, Nat.reduceAdd, Nat.reduceMul, Nat.reduceSub, Nat.reduceLT, Int.reduceToNat]))
  refine hn.call ?_
  (try (simp (disch := first | omega | (simp <;> omega) | fail) only [push_cast, ↓reduceIte, Nat.reduceEqDiff, Nat.reduceAdd, Nat.reduceMul, Nat.reduceSub, Nat.reduceLT, Int.reduceToNat]))

theorem c_impl_TrieKeyAt (t : Tr) (K : List Str) (hK : trV t = some K) (j : Nat) (hj : j < (nodesK K).length) (hjk : atB t.en j = true) : Fn Tryz.prog 51 [eTr t, .int .i64 (cntB (numW (lI t.en.words)) j)] (· = .tup [.str ((nodesK K).getD j []), .bool true]) := by
  refine Fn.of (free_tup (free_cons_ free_str (free_cons_ free_bool free_nil_))) fun h => ?_
  refine enter (by kernel_rfl) e51 (by kernel_rfl) rfl fun hok => ?_
  simp only [r51, initEnv_2]
  have hn := c_impl_Trie_nodes_o t
  have hnv : noV t = eS (some (nodesK K)) := noV_some hK
  have hfc := @free_cTr t
  rw [hnv] at hn
  clear hnv
  have hI := trV_some hK
  have hN1 := nodesK_cap (trV_ok hK).2
  have hsz := hI.size
  obtain ⟨e1, e2, e3, e4⟩ := okBt_num hI.words
  have hcb0 : H.cells (h ++ [some (.cells (cTr t))]) h.length = some (cTr t) := by rw [cells_h0]; rfl
  have hat : ∀ i, atB t.en i = (numW (lI t.en.words)).testBit i := fun _ => rfl
  rw [hat] at hjk
  clear hat hI
  obtain ⟨⟨ss, sw⟩, ⟨es, ew⟩, lab⟩ := t
  simp only at hsz e1 e2 e3 e4 hjk ⊢
  generalize numW (lI ew) = B at *
  generalize nodesK K = N at *
  have hle := @cntB_le B
  have hmo := @cntB_mono B
  (try (simp (disch := first | omega | (simp <;> omega) | fail) only [push_cast, ↓reduceIte, Nat.reduceEqDiff, Nat.reduceAdd, Nat.reduceMul, Nat.reduceSub, Nat.reduceLT, Int.reduceToNat]))
  refine hn.goL (.adr hcb0 hfc .nil) fun x t' g hR hx how => ?_
  subst hR
  obtain ⟨b, rfl, hb0, hcb⟩ := ow_strs how
  have hcb1 := hx.cells hcb0
  clear hcb0 how hn
  (try (simp (disch := first | omega | (simp <;> omega) | fail) only [push_cast, ↓reduceIte, Nat.reduceEqDiff, Nat.reduceAdd, Nat.reduceMul, Nat.reduceSub, Nat.reduceLT, Int.reduceToNat]))
  refine T_for N.length (fun i e h' => Pins e [(1, .int .i64 (cntB B j)), (2, .adr h.length 0), (8, .sl b 0 1 N.length N.length), (9, .int .i64 N.length), (10, .int .i64 i)] ∧ h' = g ∧ i ≤ j) ?_ ?_
  · (try (simp (disch := first | omega | (simp <;> omega) | fail) only [push_cast, ↓reduceIte, Nat.reduceEqDiff, Nat.reduceAdd, Nat.reduceMul, Nat.reduceSub, Nat.reduceLT, Int.reduceToNat]))
  rintro i e h' hi ⟨hpn, rfl, hij⟩
  refine T_pins hpn fun e => ?_
  have hin : ((i : Int) < (N.length : Int)) = True := eq_true (by omega)
  have h5 := hmo hij
  obtain ⟨y, hy⟩ : ∃ y, y = N.getD i [] := ⟨_, rfl⟩
  have hgs : (N.map AV.str)[i]? = some (.str y) := by rw [hy]; exact get_S (by omega)
  have hia : iaddrA 1 (.sl b 0 1 N.length N.length) (.int .i64 (i : Int)) = some (.adr b i) := by
    rw [iaddrA_sl (by omega) (by omega)]
    simp
  (try (simp (disch := first | omega | (simp <;> omega) | fail) only [push_cast, ↓reduceIte, Nat.reduceEqDiff, Nat.reduceAdd, Nat.reduceMul, Nat.reduceSub, Nat.reduceLT, Int.reduceToNat, hin, hia, hcb, hgs]))
  refine (c_impl_Bits_at ew B (lI ew).length i [.int .i64 ss, eI sw, .int .i64 es, eI ew, .str lab] 2 rfl e1 (by omega) (by omega)).lendL (.adr hcb1 hfc (.free free_int .nil)) own_bool ?_
  cases hb : B.testBit i
  · have h8 : i ≠ j := fun h9 => by rw [h9, hjk] at hb; cases hb
    (try (simp (disch := first | omega | (simp <;> omega) | fail) only [push_cast, ↓reduceIte, Nat.reduceEqDiff, Nat.reduceAdd, Nat.reduceMul, Nat.reduceSub, Nat.reduceLT, Int.reduceToNat]))
    all_goals (try omega)
  · have h7 := cntB_on hb
    (try (simp (disch := first | omega | (simp <;> omega) | fail) only [push_cast, ↓reduceIte, Nat.reduceEqDiff, Nat.reduceAdd, Nat.reduceMul, Nat.reduceSub, Nat.reduceLT, Int.reduceToNat]))
    refine (c_impl_Bits_count ew B (lI ew).length i [.int .i64 ss, eI sw, .int .i64 es, eI ew, .str lab] 2 rfl e1 (by omega) (by omega)).lendL (.adr hcb1 hfc (.free free_int (.free free_int .nil))) own_int ?_
    by_cases hep : i = j
    · subst hep
      (try (simp (disch := first | omega | (simp <;> omega) | fail) only [push_cast, ↓reduceIte, Nat.reduceEqDiff, Nat.reduceAdd, Nat.reduceMul, Nat.reduceSub, Nat.reduceLT, Int.reduceToNat, hy]))
    · have h8 := @hmo (i + 1) j (by omega)
      have h9 : ((cntB B i : Int) = (cntB B j : Int)) = False := eq_false (by omega)
      (try (simp (disch := first | omega | (simp <;> omega) | fail) only [push_cast, ↓reduceIte, Nat.reduceEqDiff, Nat.reduceAdd, Nat.reduceMul, Nat.reduceSub, Nat.reduceLT, Int.reduceToNat, h9]))
      all_goals (try omega)

end Go.Proofs.YtidhhiecgehgfaaGreat.M
