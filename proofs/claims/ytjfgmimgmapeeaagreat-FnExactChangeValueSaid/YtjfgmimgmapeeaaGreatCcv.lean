/-
  What the functions return.
-/
import Derived.Test.YtjfgmimgmapeeaaGreatFcv
import Derived.Test.YtjfgmimgmapeeaaGreatCg
namespace Go.Proofs.YtjfgmimgmapeeaaGreat.M
open Go Go.RowKit
set_option linter.unusedVariables false
set_option linter.unusedSimpArgs false
set_option maxRecDepth 4000

theorem fits_cons {s : Sh} {ss : List Sh} {zs : List AV} (h : Fits (s :: ss) zs) : ∃ xs ys, zs = xs ++ ys ∧ Fit s xs ∧ Fits ss ys := by
  cases h with
  | cons h hr => exact ⟨_, _, rfl, h, hr⟩
theorem fits_nil {zs : List AV} (h : Fits [] zs) : zs = [] := by cases h; rfl
theorem fit_int {zs : List AV} (h : Fit (.int .i64) zs) : ∃ n : Int, zs = [.int .i64 n] ∧ -9223372036854775808 ≤ n ∧ n ≤ 9223372036854775807 := by
  cases h with
  | int h1 h2 => exact ⟨_, rfl, by simpa [IntKind.min, IntKind.signed, IntKind.bits] using h1, by simpa [IntKind.max, IntKind.signed, IntKind.bits] using h2⟩
theorem fit_str {zs : List AV} (h : Fit .str zs) : ∃ s : Str, zs = [.str s] ∧ s.length ≤ 9223372036854775807 := by
  cases h with
  | str h => exact ⟨_, rfl, h⟩
theorem fit_st {fs : List Sh} {zs : List AV} (h : Fit (.st fs) zs) : Fits fs zs := by
  cases h with
  | st h => exact h
theorem flatMap_eq {α β : Type} {f g : α → List β} : ∀ {l : List α}, (∀ a ∈ l, f a = g a) → l.flatMap f = l.flatMap g
  | [], _ => rfl
  | a :: l, h => by
    rw [List.flatMap_cons, List.flatMap_cons, h a (by simp), flatMap_eq fun b hb => h b (by simp [hb])]
theorem fit_strs {zs : List AV} (h : Fit (.sl .str 1) zs) : ∃ a : Option (List Str), zs = [eS a] := by
  cases h with
  | nil => exact ⟨none, rfl⟩
  | @sl _ _ n g hm hl h =>
    have hg : ∀ i, ∃ s : Str, i < n → g i = [.str s] := fun i => by
      by_cases hi : i < n
      · obtain ⟨s, hs, _⟩ := fit_str (h i hi)
        exact ⟨s, fun _ => hs⟩
      · exact ⟨[], fun h => absurd h hi⟩
    refine ⟨some ((List.range n).map fun i => Classical.choose (hg i)), ?_⟩
    simp only [eS, List.length_map, List.length_range, List.map_map]
    congr 2
    rw [← List.flatMap_singleton' ((List.range n).map _), List.flatMap_map]
    refine flatMap_eq fun i hi => ?_
    rw [Classical.choose_spec (hg i) (List.mem_range.1 hi)]
    rfl
theorem argsFit_cons {s : Sh} {ss : List Sh} {zs : List AV} (h : ArgsFit (s :: ss) zs) : ∃ xs ys, zs = argOf s xs :: ys ∧ Fit s xs ∧ ArgsFit ss ys := by
  cases h with
  | cons h hr => exact ⟨_, _, rfl, h, hr⟩
theorem argsFit_nil {zs : List AV} (h : ArgsFit [] zs) : zs = [] := by cases h; rfl

theorem fit_rows {α : Type} [Inhabited α] {s : Sh} {w : Nat} {f : α → List AV} (hf : ∀ xs, Fit s xs → ∃ a, xs = f a) {zs : List AV} (h : Fit (.sl s w) zs) : zs = [.nils] ∨ ∃ l : List α, zs = [.ro w (l.flatMap f) l.length] := by
  cases h with
  | nil => exact .inl rfl
  | @sl _ _ n g hm hl h =>
    have hg : ∀ i, ∃ a : α, i < n → g i = f a := fun i => by
      by_cases hi : i < n
      · obtain ⟨a, ha⟩ := hf _ (h i hi)
        exact ⟨a, fun _ => ha⟩
      · exact ⟨default, fun h => absurd h hi⟩
    refine .inr ⟨(List.range n).map fun i => Classical.choose (hg i), ?_⟩
    rw [List.length_map, List.length_range, List.flatMap_map]
    congr 2
    exact flatMap_eq fun i hi => Classical.choose_spec (hg i) (List.mem_range.1 hi)
theorem flatMap_one {α : Type} {f : α → AV} : ∀ {l : List α}, l.flatMap (fun a => [f a]) = l.map f
  | [] => rfl
  | a :: l => by rw [List.flatMap_cons, flatMap_one]; rfl
theorem fit_ints {zs : List AV} (h : Fit (.sl (.int .i64) 1) zs) : ∃ a : Option (List Int), zs = [eI a] := by
  rcases fit_rows (f := fun n : Int => [AV.int .i64 n]) (fun xs hx => by obtain ⟨n, hn, _⟩ := fit_int hx; exact ⟨n, hn⟩) h with rfl | ⟨l, rfl⟩
  · exact ⟨none, rfl⟩
  · exact ⟨some l, by rw [flatMap_one]; rfl⟩

def shPeeled : Sh := .st [.int .i64, .int .i64, .sl (.int .i64) 1]
theorem fit_peeled {zs : List AV} (h : Fit shPeeled zs) : ∃ p, zs = cP p := by
  obtain ⟨x1, y1, rfl, h1, h⟩ := fits_cons (fit_st h)
  obtain ⟨x2, y2, rfl, h2, h⟩ := fits_cons h
  obtain ⟨x3, y3, rfl, h3, h⟩ := fits_cons h
  obtain rfl := fits_nil h
  obtain ⟨n, rfl, _⟩ := fit_int h1
  obtain ⟨m, rfl, _⟩ := fit_int h2
  obtain ⟨a, rfl⟩ := fit_ints h3
  exact ⟨⟨n, m, a⟩, rfl⟩
theorem fit_peeleds {zs : List AV} (h : Fit (.sl shPeeled 3) zs) : ∃ a : Option (List Pd), zs = [ePS a] := by
  rcases fit_rows (fun xs hx => fit_peeled hx) h with rfl | ⟨l, rfl⟩
  · exact ⟨none, rfl⟩
  · exact ⟨some l, rfl⟩
def shSharded : Sh := .st [.int .i64, .sl shPeeled 3, .sl (.int .i64) 1]
theorem fit_sharded {zs : List AV} (h : Fit shSharded zs) : ∃ s, argOf shSharded zs = eSh s := by
  obtain ⟨x1, y1, rfl, h1, h⟩ := fits_cons (fit_st h)
  obtain ⟨x2, y2, rfl, h2, h⟩ := fits_cons h
  obtain ⟨x3, y3, rfl, h3, h⟩ := fits_cons h
  obtain rfl := fits_nil h
  obtain ⟨n, rfl, _⟩ := fit_int h1
  obtain ⟨m, rfl⟩ := fit_peeleds h2
  obtain ⟨a, rfl⟩ := fit_ints h3
  exact ⟨⟨n, m, a⟩, rfl⟩

def shTab : Sh := .st [.int .i64, .int .i64, .int .i64, .sl (.int .i64) 1]
theorem fit_tab {zs : List AV} (h : Fit shTab zs) : ∃ a b c l, argOf shTab zs = eTab a b c l := by
  obtain ⟨x1, y1, rfl, h1, h⟩ := fits_cons (fit_st h)
  obtain ⟨x2, y2, rfl, h2, h⟩ := fits_cons h
  obtain ⟨x3, y3, rfl, h3, h⟩ := fits_cons h
  obtain ⟨x4, y4, rfl, h4, h⟩ := fits_cons h
  obtain rfl := fits_nil h
  obtain ⟨n, rfl, _⟩ := fit_int h1
  obtain ⟨m, rfl, _⟩ := fit_int h2
  obtain ⟨k, rfl, _⟩ := fit_int h3
  obtain ⟨a, rfl⟩ := fit_ints h4
  exact ⟨n, m, k, a, rfl⟩
theorem szv_le2 {left : Int} {w : Nat} (h : 0 ≤ szv left w) : szv left w ≤ left := by
  unfold szv at h ⊢
  split <;> omega
def sh_FnExactChangeValue : List Sh := [shTab, .sl .str 1, .int .i64, .int .i64]
set_option maxHeartbeats 1000000 in
theorem law_FnExactChangeValue (ys : List AV) (hy : ArgsFit sh_FnExactChangeValue ys) : Call Tryz.prog 3 ys [] Nowhere (fun x _ => x = .bool true) := by
  obtain ⟨x1, y1, rfl, h1, hy⟩ := argsFit_cons hy
  obtain ⟨x2, y2, rfl, h2, hy⟩ := argsFit_cons hy
  obtain ⟨x3, y3, rfl, h3, hy⟩ := argsFit_cons hy
  obtain ⟨x4, y4, rfl, h4, hy⟩ := argsFit_cons hy
  obtain rfl := argsFit_nil hy
  obtain ⟨a, b, c, l, he⟩ := fit_tab h1
  obtain ⟨keys, hke⟩ := fit_strs h2
  subst hke
  obtain ⟨i, rfl, _, _⟩ := fit_int h3
  obtain ⟨value, rfl, _, _⟩ := fit_int h4
  rw [he]
  refine (?_ : ∀ h, Call Tryz.prog 3 [eTab a b c l, eS keys, .int .i64 i, .int .i64 value] h Nowhere (fun x _ => x = .bool true)) []
  intro h
  have hsz := c_laws_szTable a b c l 1048576 (by omega) (by omega)
  have htt := c_laws_toTable a b c l
  have htto := c_laws_toTable_o a b c l
  have hsp := c_spec_ChangeValue a b c i value (some (lI l)) (some (lS keys))
  have himpl := c_impl_ChangeValue_o a b c i value (some (lI l)) (some (lS keys))
  have heX := c_laws_eqTable a b c (some (lI l))
  obtain ⟨ra, rb, rc, rl, q, hv, hal⟩ := chgV_tup a b c (some (lI l)) (some (lS keys)) i value
  rw [hv] at himpl hsp
  clear hv
  have heT := c_laws_eqTable ra rb rc rl
  have huT : ∀ a b c l, eTab a b c l = .agg [.int .i64 a, .int .i64 b, .int .i64 c, eI l] := fun _ _ _ _ => rfl
  rw [huT a b c l]
  rw [huT a b c l] at hsz htt htto
  refine enter (by kernel_rfl) e3 (by kernel_rfl) rfl fun hok => ?_
  simp only [r3, initEnv_4]
  (try (simp (disch := first | omega | (simp <;> omega) | fail) only [push_cast, ↓reduceIte, Nat.reduceEqDiff, Nat.reduceAdd, Nat.reduceMul, Nat.reduceSub, Nat.reduceLT, Int.reduceToNat]))
  refine hsz.call ?_
  (try (simp (disch := first | omega | (simp <;> omega) | fail) only [push_cast, ↓reduceIte, Nat.reduceEqDiff, Nat.reduceAdd, Nat.reduceMul, Nat.reduceSub, Nat.reduceLT, Int.reduceToNat]))
  first | refine goC_split (fun hc => ?_) (fun hc => ?_) | refine cnd_split (fun hc => ?_) (fun hc => ?_)
  · (try (simp only [decide_eq_true_eq, decide_eq_false_iff_not, Bool.not_eq_true', Bool.not_eq_false', Bool.and_eq_true, Bool.or_eq_true, Int.not_lt, Int.not_le] at hc)); (try (simp (disch := first | omega | (simp <;> omega) | fail) only [push_cast, ↓reduceIte, Nat.reduceEqDiff, Nat.reduceAdd, Nat.reduceMul, Nat.reduceSub, Nat.reduceLT, Int.reduceToNat]))
  (try (simp only [decide_eq_true_eq, decide_eq_false_iff_not, Bool.not_eq_true', Bool.not_eq_false', Bool.and_eq_true, Bool.or_eq_true, Int.not_lt, Int.not_le] at hc)); (try (simp (disch := first | omega | (simp <;> omega) | fail) only [push_cast, ↓reduceIte, Nat.reduceEqDiff, Nat.reduceAdd, Nat.reduceMul, Nat.reduceSub, Nat.reduceLT, Int.reduceToNat]))
  have hw := szv_ok hc
  have hw2 : (lI l).length ≤ 1048576 := by omega
  have hw4 := szv_le2 hc
  refine (c_laws_szStringS keys _ (by omega) (by omega)).call ?_
  (try (simp (disch := first | omega | (simp <;> omega) | fail) only [push_cast, ↓reduceIte, Nat.reduceEqDiff, Nat.reduceAdd, Nat.reduceMul, Nat.reduceSub, Nat.reduceLT, Int.reduceToNat]))
  first | refine goC_split (fun hd => ?_) (fun hd => ?_) | refine cnd_split (fun hd => ?_) (fun hd => ?_)
  · (try (simp only [decide_eq_true_eq, decide_eq_false_iff_not, Bool.not_eq_true', Bool.not_eq_false', Bool.and_eq_true, Bool.or_eq_true, Int.not_lt, Int.not_le] at hd)); (try (simp (disch := first | omega | (simp <;> omega) | fail) only [push_cast, ↓reduceIte, Nat.reduceEqDiff, Nat.reduceAdd, Nat.reduceMul, Nat.reduceSub, Nat.reduceLT, Int.reduceToNat]))
  (try (simp only [decide_eq_true_eq, decide_eq_false_iff_not, Bool.not_eq_true', Bool.not_eq_false', Bool.and_eq_true, Bool.or_eq_true, Int.not_lt, Int.not_le] at hd)); (try (simp (disch := first | omega | (simp <;> omega) | fail) only [push_cast, ↓reduceIte, Nat.reduceEqDiff, Nat.reduceAdd, Nat.reduceMul, Nat.reduceSub, Nat.reduceLT, Int.reduceToNat]))
  have hw3 := szv_ok hd
  have hl : (lS keys).length ≤ 1048576 := by unfold wS at hw3; omega
  clear hc hd hw3 hw4 hw
  have htt := htt hw2
  have htto := htto hw2
  refine htt.call ?_
  (try (simp (disch := first | omega | (simp <;> omega) | fail) only [push_cast, ↓reduceIte, Nat.reduceEqDiff, Nat.reduceAdd, Nat.reduceMul, Nat.reduceSub, Nat.reduceLT, Int.reduceToNat]))
  refine (c_laws_toStringS keys hl).call ?_
  (try (simp (disch := first | omega | (simp <;> omega) | fail) only [push_cast, ↓reduceIte, Nat.reduceEqDiff, Nat.reduceAdd, Nat.reduceMul, Nat.reduceSub, Nat.reduceLT, Int.reduceToNat]))
  refine hsp.call ?_
  (try (simp (disch := first | omega | (simp <;> omega) | fail) only [push_cast, ↓reduceIte, Nat.reduceEqDiff, Nat.reduceAdd, Nat.reduceMul, Nat.reduceSub, Nat.reduceLT, Int.reduceToNat, huT ra rb rc rl]))
  refine htto.go fun x t g1 hR hx1 how1' => ?_
  subst hR
  obtain ⟨v0, rfl, how1⟩ := ow_tab how1'
  clear how1'
  have ov := ow_ints how1
  have ha1 : H.cells g1 h.length = some [.int .i64 a, .int .i64 b, .int .i64 c, eI l] := hx1.cells (by rw [cells_h0]; rfl)
  have hb1 : H.cells g1 (h.length + 1) = some [.int .i64 ra, .int .i64 rb, .int .i64 rc, eI rl] := hx1.cells (by rw [cells_hk]; rfl)
  have l1 := hx1.len
  simp only [List.length_append, List.length_cons, List.length_nil] at l1 how1
  (try (simp (disch := first | omega | (simp <;> omega) | fail) only [push_cast, ↓reduceIte, Nat.reduceEqDiff, Nat.reduceAdd, Nat.reduceMul, Nat.reduceSub, Nat.reduceLT, Int.reduceToNat, ov.1, ov.2]))
  have e2 : Ext g1 (g1 ++ [some (AObj.cells [AV.int .i64 a, .int .i64 b, .int .i64 c, v0])]) := Ext.refl.app
  have hc2 : H.cells (g1 ++ [some (AObj.cells [AV.int .i64 a, .int .i64 b, .int .i64 c, v0])]) g1.length = some [AV.int .i64 a, .int .i64 b, .int .i64 c, v0] := by rw [cells_h0]; rfl
  generalize g1 ++ [some (AObj.cells [AV.int .i64 a, .int .i64 b, .int .i64 c, v0])] = g2 at *
  have how1 := e2.ow how1
  have ha2 := e2.cells ha1
  have hb2 := e2.cells hb1
  have l2 := cells_lt hc2
  refine (c_laws_toStringS_o keys hl).go fun x t g3 hR hx3 how3 => ?_
  subst hR
  obtain ⟨b3, rfl⟩ := Ow.sl1 (show Ow g3 [x] [.ro 1 _ _] _ from how3)
  have how1 := hx3.ow2 how1 (by omega)
  have ha3 := hx3.cells ha2
  have hb3 := hx3.cells hb2
  have hc3 := hx3.cells hc2
  have l3 := hx3.len
  (try (simp (disch := first | omega | (simp <;> omega) | fail) only [push_cast, ↓reduceIte, Nat.reduceEqDiff, Nat.reduceAdd, Nat.reduceMul, Nat.reduceSub, Nat.reduceLT, Int.reduceToNat, hc3]))
  refine himpl.goL (.cons (ow_tab2 how1).vw0 (.cons how3.vw0 (.free free_int (.free free_int .nil)))) fun y t g4 hR hx4 how4' => ?_
  subst hR
  obtain ⟨y0, rfl, how4''⟩ := ow_tup2 how4'
  obtain ⟨g0, rfl, how4⟩ := ow_tab how4''
  clear how4' how4''
  have og := ow_ints how4
  have how1 := hx4.ow2 how1 (by omega)
  have how3 := hx4.ow how3
  have ha4 := hx4.cells ha3
  have hb4 := hx4.cells hb3
  have hc4 := hx4.cells hc3
  have l4 := hx4.len
  have heqS : Fn Tryz.prog 15 [eS (some (lS keys)), eS (some (lS keys))] (· = .bool true) := by
    have := c_laws_eqStringS (some (lS keys)) (some (lS keys))
    simpa using this
  (try (simp (disch := first | omega | (simp <;> omega) | fail) only [push_cast, ↓reduceIte, Nat.reduceEqDiff, Nat.reduceAdd, Nat.reduceMul, Nat.reduceSub, Nat.reduceLT, Int.reduceToNat, og.1, og.2, hb4]))
  have e5 : Ext g4 (g4 ++ [some (AObj.cells [AV.int .i64 ra, .int .i64 rb, .int .i64 rc, g0])]) := Ext.refl.app
  have hd5 : H.cells (g4 ++ [some (AObj.cells [AV.int .i64 ra, .int .i64 rb, .int .i64 rc, g0])]) g4.length = some [AV.int .i64 ra, .int .i64 rb, .int .i64 rc, g0] := by rw [cells_h0]; rfl
  generalize g4 ++ [some (AObj.cells [AV.int .i64 ra, .int .i64 rb, .int .i64 rc, g0])] = g5 at *
  have how1 := e5.ow2 how1 (by omega)
  have how3 := e5.ow2 how3 (by omega)
  have how4 := e5.ow how4
  have ha5 := e5.cells ha4
  have hb5 := e5.cells hb4
  have hc5 := e5.cells hc4
  have l5 := cells_lt hd5
  (try (simp (disch := first | omega | (simp <;> omega) | fail) only [push_cast, ↓reduceIte, Nat.reduceEqDiff, Nat.reduceAdd, Nat.reduceMul, Nat.reduceSub, Nat.reduceLT, Int.reduceToNat, hd5, hb5]))
  refine heT.lendL (.cons (ow_tab2 how4).vw0 (.free free_eTab .nil)) own_bool ?_
  (try (simp (disch := first | omega | (simp <;> omega) | fail) only [push_cast, ↓reduceIte, Nat.reduceEqDiff, Nat.reduceAdd, Nat.reduceMul, Nat.reduceSub, Nat.reduceLT, Int.reduceToNat, hc5, ha5, reads, List.mem_cons, List.mem_append, List.not_mem_nil, nat_ff, or_self, or_false, false_or, not_false_eq_true]))
  refine htt.call ?_
  (try (simp (disch := first | omega | (simp <;> omega) | fail) only [push_cast, ↓reduceIte, Nat.reduceEqDiff, Nat.reduceAdd, Nat.reduceMul, Nat.reduceSub, Nat.reduceLT, Int.reduceToNat, reads, List.mem_cons, List.mem_append, List.not_mem_nil, nat_ff, or_self, or_false, false_or, not_false_eq_true]))
  refine heX.lendL (.cons (ow_tab2 how1).vw0 (.free free_eTab .nil)) own_bool ?_
  (try (simp (disch := first | omega | (simp <;> omega) | fail) only [push_cast, ↓reduceIte, Nat.reduceEqDiff, Nat.reduceAdd, Nat.reduceMul, Nat.reduceSub, Nat.reduceLT, Int.reduceToNat, reads, List.mem_cons, List.mem_append, List.not_mem_nil, nat_ff, or_self, or_false, false_or, not_false_eq_true]))
  refine (c_laws_toStringS keys hl).call ?_
  (try (simp (disch := first | omega | (simp <;> omega) | fail) only [push_cast, ↓reduceIte, Nat.reduceEqDiff, Nat.reduceAdd, Nat.reduceMul, Nat.reduceSub, Nat.reduceLT, Int.reduceToNat]))
  refine heqS.lendL (.cons how3.vw0 (.free free_eS .nil)) own_bool ?_
  (try (simp (disch := first | omega | (simp <;> omega) | fail) only [push_cast, ↓reduceIte, Nat.reduceEqDiff, Nat.reduceAdd, Nat.reduceMul, Nat.reduceSub, Nat.reduceLT, Int.reduceToNat, hc5]))
  refine (c_laws_markTable v0 a b c (some (lI l)) _ 1 _ how1 (fun c hc => by have := hc.2; omega) ov.1 ov.2 (by omega) (show (1 : Int) + ((lI l).length : Int) ≤ 100000000 by omega)).mono (fun x g6 hx => ?_) (fun c _ hc => Or.inr (by have := hc.1; omega))
  obtain ⟨rfl, hk1, _⟩ := hx
  have how3 := hk1.ow how3 fun c hc => ⟨by have := hc.2; omega, fun hd => by have := hc.1; have := hd.2; omega⟩
  have how4 := hk1.ow how4 fun c hc => ⟨by have := hc.2; omega, fun hd => by have := hc.1; have := hd.2; omega⟩
  have ha6 := cells_keep (hk1.2 _ (by omega) fun hc => by have := hc.1; omega) ha5
  have hb6 := cells_keep (hk1.2 _ (by omega) fun hc => by have := hc.1; omega) hb5
  have hd6 := cells_keep (hk1.2 _ l5 fun hc => by have := hc.2; omega) hd5
  have l6 := hk1.1
  have hll : (lI (some (lI l))).length = (lI l).length := rfl
  rw [hll]
  (try (simp (disch := first | omega | (simp <;> omega) | fail) only [push_cast, ↓reduceIte, Nat.reduceEqDiff, Nat.reduceAdd, Nat.reduceMul, Nat.reduceSub, Nat.reduceLT, Int.reduceToNat]))
  refine (c_laws_markStringS_ow _ (lS keys) _ _ _ how3 (by omega) (by omega)).mono (fun x g7 hx => ?_) (fun c _ hc => Or.inr (by have := hc.1; omega))
  obtain ⟨rfl, hk2⟩ := hx
  have how4 := hk2.ow how4 fun c hc hd => by have := hc.1; have := hd.2; omega
  have ha7 := cells_keep (hk2.2 _ fun hc => by have := hc.1; omega) ha6
  have hb7 := cells_keep (hk2.2 _ fun hc => by have := hc.1; omega) hb6
  have hd7 := cells_keep (hk2.2 _ fun hc => by have := hc.2; omega) hd6
  have l7 := cells_lt hd7
  (try (simp (disch := first | omega | (simp <;> omega) | fail) only [push_cast, ↓reduceIte, Nat.reduceEqDiff, Nat.reduceAdd, Nat.reduceMul, Nat.reduceSub, Nat.reduceLT, Int.reduceToNat, hd7, hb7]))
  refine heT.lendL (.cons (ow_tab2 how4).vw0 (.free free_eTab .nil)) own_bool ?_
  (try (simp (disch := first | omega | (simp <;> omega) | fail) only [push_cast, ↓reduceIte, Nat.reduceEqDiff, Nat.reduceAdd, Nat.reduceMul, Nat.reduceSub, Nat.reduceLT, Int.reduceToNat, hd7, hb7]))
  refine (c_laws_markTable g0 ra rb rc rl _ 1 _ how4 (fun c hc => by have := hc.2; omega) og.1 og.2 (by omega) (by omega)).mono (fun x g8 hx => ?_) (fun c _ hc => Or.inr (by have := hc.1; omega))
  obtain ⟨rfl, hk3, how5⟩ := hx
  have ha8 := cells_keep (hk3.2 _ (by omega) fun hc => by have := hc.1; omega) ha7
  have hb8 := cells_keep (hk3.2 _ (by omega) fun hc => by have := hc.1; omega) hb7
  have hd8 := cells_keep (hk3.2 _ l7 fun hc => by have := hc.2; omega) hd7
  have l8 := cells_lt hd8
  (try (simp (disch := first | omega | (simp <;> omega) | fail) only [push_cast, ↓reduceIte, Nat.reduceEqDiff, Nat.reduceAdd, Nat.reduceMul, Nat.reduceSub, Nat.reduceLT, Int.reduceToNat, hd8]))
  refine (c_laws_heldTable ra rb rc rl 1 (by omega) (by omega)).lendL (.cons (ow_tab2 how5).vw0 (.free free_int .nil)) own_int ?_
  (try (simp (disch := first | omega | (simp <;> omega) | fail) only [push_cast, ↓reduceIte, Nat.reduceEqDiff, Nat.reduceAdd, Nat.reduceMul, Nat.reduceSub, Nat.reduceLT, Int.reduceToNat, hd8, ha8]))
  refine htt.call ?_
  (try (simp (disch := first | omega | (simp <;> omega) | fail) only [push_cast, ↓reduceIte, Nat.reduceEqDiff, Nat.reduceAdd, Nat.reduceMul, Nat.reduceSub, Nat.reduceLT, Int.reduceToNat]))
  refine (c_laws_toStringS keys hl).call ?_
  (try (simp (disch := first | omega | (simp <;> omega) | fail) only [push_cast, ↓reduceIte, Nat.reduceEqDiff, Nat.reduceAdd, Nat.reduceMul, Nat.reduceSub, Nat.reduceLT, Int.reduceToNat]))
  refine himpl.fn.call ?_
  (try (simp (disch := first | omega | (simp <;> omega) | fail) only [push_cast, ↓reduceIte, Nat.reduceEqDiff, Nat.reduceAdd, Nat.reduceMul, Nat.reduceSub, Nat.reduceLT, Int.reduceToNat, huT ra rb rc rl, hb8]))
  have hb9 := cells_app (l := [some (AObj.cells [AV.int .i64 ra, .int .i64 rb, .int .i64 rc, eI rl])]) hb8
  have hd9 := cells_app (l := [some (AObj.cells [AV.int .i64 ra, .int .i64 rb, .int .i64 rc, eI rl])]) hd8
  have how9 : Ow (g8 ++ [some (AObj.cells [AV.int .i64 ra, .int .i64 rb, .int .i64 rc, eI rl])]) [g0] [eI (mkI 1 rl)] _ := how5.frame fun c hc => List.getElem?_append_left (by have := hc.2; omega)
  (try (simp (disch := first | omega | (simp <;> omega) | fail) only [push_cast, ↓reduceIte, Nat.reduceEqDiff, Nat.reduceAdd, Nat.reduceMul, Nat.reduceSub, Nat.reduceLT, Int.reduceToNat, hb9, hb8]))
  refine heT.call ?_
  (try (simp (disch := first | omega | (simp <;> omega) | fail) only [push_cast, ↓reduceIte, Nat.reduceEqDiff, Nat.reduceAdd, Nat.reduceMul, Nat.reduceSub, Nat.reduceLT, Int.reduceToNat, hd9, hd8]))
  refine (c_laws_heldTable ra rb rc rl 1 (by omega) (by omega)).lendL (.cons (ow_tab2 how9).vw0 (.free free_int .nil)) own_int ?_
  (try (simp (disch := first | omega | (simp <;> omega) | fail) only [push_cast, ↓reduceIte, Nat.reduceEqDiff, Nat.reduceAdd, Nat.reduceMul, Nat.reduceSub, Nat.reduceLT, Int.reduceToNat, hd9, hd8]))

end Go.Proofs.YtjfgmimgmapeeaaGreat.M
