/-
  What the functions return.
-/
import Derived.Test.YtjfgmimgmapeeaaFts
import Derived.Test.YtjfgmimgmapeeaaCe
namespace Go.Proofs.Ytjfgmimgmapeeaa.M
open Go Go.RowKit
set_option linter.unusedVariables false
set_option linter.unusedSimpArgs false
set_option maxRecDepth 4000

theorem fits_cons {s : Sh} {ss : List Sh} {zs : List AV} (h : Fits (s :: ss) zs) : ∃ xs ys, zs = xs ++ ys ∧ Fit s xs ∧ Fits ss ys := by
  cases h with
  | cons h hr => exact ⟨_, _, rfl, h, hr⟩
theorem fits_nil {zs : List AV} (h : Fits [] zs) : zs = [] := by cases h; rfl
theorem fit_int {zs : List AV} (h : Fit (.int .i64) zs) : ∃ n : Int, zs = [.int .i64 n] ∧ -9223372036854775808 ≤ n ∧ n ≤ 9223372036854775807 := by
  cases h with
  | int h1 h2 => exact ⟨_, rfl, by simpa [IntKind.min, IntKind.signed, IntKind.bits] using h1, by simpa [IntKind.max, IntKind.signed, IntKind.bits] using h2⟩
theorem fit_str {zs : List AV} (h : Fit .str zs) : ∃ s : Str, zs = [.str s] ∧ s.length ≤ 9223372036854775807 := by
  cases h with
  | str h => exact ⟨_, rfl, h⟩
theorem fit_st {fs : List Sh} {zs : List AV} (h : Fit (.st fs) zs) : Fits fs zs := by
  cases h with
  | st h => exact h
theorem flatMap_eq {α β : Type} {f g : α → List β} : ∀ {l : List α}, (∀ a ∈ l, f a = g a) → l.flatMap f = l.flatMap g
  | [], _ => rfl
  | a :: l, h => by
    rw [List.flatMap_cons, List.flatMap_cons, h a (by simp), flatMap_eq fun b hb => h b (by simp [hb])]
theorem fit_strs {zs : List AV} (h : Fit (.sl .str 1) zs) : ∃ a : Option (List Str), zs = [eS a] := by
  cases h with
  | nil => exact ⟨none, rfl⟩
  | @sl _ _ n g hm hl h =>
    have hg : ∀ i, ∃ s : Str, i < n → g i = [.str s] := fun i => by
      by_cases hi : i < n
      · obtain ⟨s, hs, _⟩ := fit_str (h i hi)
        exact ⟨s, fun _ => hs⟩
      · exact ⟨[], fun h => absurd h hi⟩
    refine ⟨some ((List.range n).map fun i => Classical.choose (hg i)), ?_⟩
    simp only [eS, List.length_map, List.length_range, List.map_map]
    congr 2
    rw [← List.flatMap_singleton' ((List.range n).map _), List.flatMap_map]
    refine flatMap_eq fun i hi => ?_
    rw [Classical.choose_spec (hg i) (List.mem_range.1 hi)]
    rfl
theorem argsFit_cons {s : Sh} {ss : List Sh} {zs : List AV} (h : ArgsFit (s :: ss) zs) : ∃ xs ys, zs = argOf s xs :: ys ∧ Fit s xs ∧ ArgsFit ss ys := by
  cases h with
  | cons h hr => exact ⟨_, _, rfl, h, hr⟩
theorem argsFit_nil {zs : List AV} (h : ArgsFit [] zs) : zs = [] := by cases h; rfl

theorem fit_rows {α : Type} [Inhabited α] {s : Sh} {w : Nat} {f : α → List AV} (hf : ∀ xs, Fit s xs → ∃ a, xs = f a) {zs : List AV} (h : Fit (.sl s w) zs) : zs = [.nils] ∨ ∃ l : List α, zs = [.ro w (l.flatMap f) l.length] := by
  cases h with
  | nil => exact .inl rfl
  | @sl _ _ n g hm hl h =>
    have hg : ∀ i, ∃ a : α, i < n → g i = f a := fun i => by
      by_cases hi : i < n
      · obtain ⟨a, ha⟩ := hf _ (h i hi)
        exact ⟨a, fun _ => ha⟩
      · exact ⟨default, fun h => absurd h hi⟩
    refine .inr ⟨(List.range n).map fun i => Classical.choose (hg i), ?_⟩
    rw [List.length_map, List.length_range, List.flatMap_map]
    congr 2
    exact flatMap_eq fun i hi => Classical.choose_spec (hg i) (List.mem_range.1 hi)
theorem flatMap_one {α : Type} {f : α → AV} : ∀ {l : List α}, l.flatMap (fun a => [f a]) = l.map f
  | [] => rfl
  | a :: l => by rw [List.flatMap_cons, flatMap_one]; rfl
theorem fit_ints {zs : List AV} (h : Fit (.sl (.int .i64) 1) zs) : ∃ a : Option (List Int), zs = [eI a] := by
  rcases fit_rows (f := fun n : Int => [AV.int .i64 n]) (fun xs hx => by obtain ⟨n, hn, _⟩ := fit_int hx; exact ⟨n, hn⟩) h with rfl | ⟨l, rfl⟩
  · exact ⟨none, rfl⟩
  · exact ⟨some l, by rw [flatMap_one]; rfl⟩

def shPeeled : Sh := .st [.int .i64, .int .i64, .sl (.int .i64) 1]
theorem fit_peeled {zs : List AV} (h : Fit shPeeled zs) : ∃ p, zs = cP p := by
  obtain ⟨x1, y1, rfl, h1, h⟩ := fits_cons (fit_st h)
  obtain ⟨x2, y2, rfl, h2, h⟩ := fits_cons h
  obtain ⟨x3, y3, rfl, h3, h⟩ := fits_cons h
  obtain rfl := fits_nil h
  obtain ⟨n, rfl, _⟩ := fit_int h1
  obtain ⟨m, rfl, _⟩ := fit_int h2
  obtain ⟨a, rfl⟩ := fit_ints h3
  exact ⟨⟨n, m, a⟩, rfl⟩
theorem fit_peeleds {zs : List AV} (h : Fit (.sl shPeeled 3) zs) : ∃ a : Option (List Pd), zs = [ePS a] := by
  rcases fit_rows (fun xs hx => fit_peeled hx) h with rfl | ⟨l, rfl⟩
  · exact ⟨none, rfl⟩
  · exact ⟨some l, rfl⟩
def shSharded : Sh := .st [.int .i64, .sl shPeeled 3, .sl (.int .i64) 1]
theorem fit_sharded {zs : List AV} (h : Fit shSharded zs) : ∃ s, argOf shSharded zs = eSh s := by
  obtain ⟨x1, y1, rfl, h1, h⟩ := fits_cons (fit_st h)
  obtain ⟨x2, y2, rfl, h2, h⟩ := fits_cons h
  obtain ⟨x3, y3, rfl, h3, h⟩ := fits_cons h
  obtain rfl := fits_nil h
  obtain ⟨n, rfl, _⟩ := fit_int h1
  obtain ⟨m, rfl⟩ := fit_peeleds h2
  obtain ⟨a, rfl⟩ := fit_ints h3
  exact ⟨⟨n, m, a⟩, rfl⟩

def mkB (k : Int) : List Bt → List Bt
  | [] => []
  | b :: l => ⟨k, mkI (k + 1) b.words⟩ :: mkB (k + 1 + (lI b.words).length) l
def offB (l : List Bt) : Nat := (l.map fun b => 1 + (lI b.words).length).sum
theorem mkB_len : ∀ {k : Int} {l : List Bt}, (mkB k l).length = l.length
  | _, [] => rfl
  | _, b :: l => by simp [mkB, mkB_len]
theorem mkB_app : ∀ {k : Int} {l : List Bt} {b : Bt}, mkB k (l ++ [b]) = mkB k l ++ [⟨k + offB l, mkI (k + offB l + 1) b.words⟩]
  | k, [], b => by simp [mkB, offB]
  | k, a :: l, b => by
    rw [List.cons_append, mkB, mkB_app, mkB, List.cons_append]
    have e : k + 1 + ((lI a.words).length : Int) + (offB l : Int) = k + (offB (a :: l) : Int) := by
      simp only [offB, List.map_cons, List.sum_cons]
      omega
    rw [e]
theorem offB_take {l : List Bt} {i : Nat} (hi : i < l.length) : offB (l.take (i + 1)) = offB (l.take i) + (1 + (lI (l.getD i default).words).length) := by
  unfold offB
  rw [List.map_take, List.map_take, sum_take_succ (by simpa using hi)]
  simp [hi]
theorem offB_le (l : List Bt) (i : Nat) : offB (l.take i) ≤ offB l := by
  unfold offB
  rw [List.map_take]
  exact sum_take_le _ i
def mkU (k : Int) (l : List Bt) (i : Nat) : List Bt := mkB k (l.take i) ++ l.drop i
theorem mkU_len {k : Int} {l : List Bt} {i : Nat} : (mkU k l i).length = l.length := by
  simp [mkU, mkB_len]
  omega
theorem mkU_get {k : Int} {l : List Bt} {i : Nat} (hi : i < l.length) : (mkU k l i).getD i default = l.getD i default := by
  unfold mkU
  have h1 : (mkB k (l.take i)).length = i := by
    rw [mkB_len, List.length_take]
    omega
  rw [List.getD_eq_getElem?_getD, List.getElem?_append_right (by omega), h1, Nat.sub_self, List.getElem?_drop]
  simp
theorem mkU_succ {k : Int} {l : List Bt} {i : Nat} (hi : i < l.length) : mkU k l (i + 1) = (mkU k l i).set i ⟨k + offB (l.take i), mkI (k + offB (l.take i) + 1) (l.getD i default).words⟩ := by
  have h1 : (mkB k (l.take i)).length = i := by
    rw [mkB_len, List.length_take]
    omega
  have ht : l.take (i + 1) = l.take i ++ [l.getD i default] := by
    rw [List.take_add_one]
    simp [hi]
  have hd : l.drop i = l.getD i default :: l.drop (i + 1) := by
    rw [List.drop_eq_getElem_cons hi]
    simp [hi]
  unfold mkU
  rw [ht, mkB_app, hd, List.set_append_right _ _ (by omega), h1, Nat.sub_self]
  simp
theorem flatB_set : ∀ {L : List Bt} {i : Nat} {z : Int} {w : Option (List Int)}, i < L.length → ((L.flatMap cB).set (i * 2) (.int .i64 z)).set (i * 2 + 1) (eI w) = (L.set i ⟨z, w⟩).flatMap cB
  | [], i, z, w, hi => by simp at hi
  | p :: L, 0, z, w, _ => by simp [cB]
  | p :: L, i + 1, z, w, hi => by
    have ih := flatB_set (L := L) (i := i) (z := z) (w := w) (by simpa using hi)
    have e2 : (i + 1) * 2 = 2 + i * 2 := by omega
    have e3 : 2 + i * 2 + 1 = 2 + (i * 2 + 1) := by omega
    rw [List.flatMap_cons, e2, e3, List.set_append_right _ _ (by rw [cB_len]; omega), List.set_append_right _ _ (by rw [cB_len]; omega), cB_len, Nat.add_sub_cancel_left, Nat.add_sub_cancel_left, ih]
    simp
theorem flatB_one {L : List Bt} : (L.flatMap cB).all one = true := by
  rw [List.all_eq_true]
  intro c hc
  obtain ⟨p, _, hp⟩ := List.mem_flatMap.1 hc
  simp only [cB, List.mem_cons, List.not_mem_nil, or_false] at hp
  rcases hp with rfl | rfl
  · rfl
  · exact one_eI

theorem ow_sys {h : H} {x : AV} {z : Int} {l : List Bt} {q : List Bool} {G : Nat → Prop} (ho : Ow h [x] [eSy ⟨z, some l, some q⟩] G) : ∃ b1 b2, x = .agg [.int .i64 z, .sl b1 0 2 l.length l.length, .sl b2 0 1 q.length q.length] := by
  obtain ⟨cs, rfl, h1⟩ := Ow.openAgg (show Ow h [x] [.agg [.int .i64 z, eBS (some l), eO (some q)]] G from ho)
  have hl : cs.length = 3 := h1.len.symm
  match cs, hl, h1 with
  | [x1, x2, x3], _, h1 =>
    obtain ⟨F, F', f1, f2, f3, f4⟩ := h1.uncons
    obtain ⟨A, B, a1, a2, a3, a4⟩ := f2.uncons
    have e1 : x1 = .int .i64 z := f1.atomOf rfl
    obtain ⟨b1, e2⟩ := Ow.sl1 (show Ow h [x2] [.ro 2 _ _] A from a1)
    obtain ⟨b2, e3⟩ := Ow.sl1 (show Ow h [x3] [.ro 1 _ _] B from a2)
    subst e1 e2 e3
    exact ⟨b1, b2, rfl⟩
theorem ow_ints {h : H} {x : AV} {a : Option (List Int)} {G : Nat → Prop} (ho : Ow h [x] [eI a] G) : one x = true ∧ cellsOf x = [x] := by
  cases a with
  | none => have : x = .nils := ho.atomOf rfl; rw [this]; exact ⟨rfl, rfl⟩
  | some l => obtain ⟨b, e⟩ := Ow.sl1 (show Ow h [x] [.ro 1 _ _] G from ho); rw [e]; exact ⟨rfl, rfl⟩
theorem ow_tup2 {h : H} {x t1 : AV} {q : Bool} {G : Nat → Prop} (ho : Ow h [x] [.tup [t1, .bool q]] G) : ∃ y, x = .tup [y, .bool q] ∧ Ow h [y] [t1] G := by
  obtain ⟨cs, rfl, h1⟩ := ho.openTup
  have hl : cs.length = 2 := h1.len.symm
  match cs, hl, h1 with
  | [x1, x2], _, h1 =>
    obtain ⟨F, F', f1, f2, f3, f4⟩ := h1.uncons
    have e2 : x2 = .bool q := f2.atomOf rfl
    subst e2
    exact ⟨x1, rfl, f1.mono f3⟩
theorem offB_cp {s : Sy} : offB (lB (cpSy s).rows) + (lO (cpSy s).right).length = wSy s := by
  unfold wSy wBS offB cpSy
  simp only [lB, lO, List.map_map]
  have : ∀ l : List Bt, (l.map ((fun b : Bt => 1 + (lI b.words).length) ∘ cpB)).sum = l.length + (l.map fun p => (lI p.words).length).sum := fun l => by
    induction l with
    | nil => rfl
    | cons a l ih =>
      simp only [List.map_cons, List.sum_cons, List.length_cons, ih, Function.comp]
      have : (lI (cpB a).words).length = (lI a.words).length := rfl
      omega
  rw [this]

theorem ow_tab {h : H} {x : AV} {a b c : Int} {l : Option (List Int)} {G : Nat → Prop} (ho : Ow h [x] [eTab a b c l] G) : ∃ v, x = .agg [.int .i64 a, .int .i64 b, .int .i64 c, v] ∧ Ow h [v] [eI l] G := by
  obtain ⟨cs, rfl, h1⟩ := Ow.openAgg (show Ow h [x] [.agg [.int .i64 a, .int .i64 b, .int .i64 c, eI l]] G from ho)
  have hl : cs.length = 4 := h1.len.symm
  match cs, hl, h1 with
  | [x0, x1, x2, x3], _, h1 =>
    obtain ⟨F, F', f1, f2, f3, f4⟩ := h1.uncons
    obtain ⟨A, A', a1, a2, a3, a4⟩ := f2.uncons
    obtain ⟨B, B', b1, b2, b3, b4⟩ := a2.uncons
    have e0 : x0 = .int .i64 a := f1.atomOf rfl
    have e1 : x1 = .int .i64 b := a1.atomOf rfl
    have e2 : x2 = .int .i64 c := b1.atomOf rfl
    subst e0 e1 e2
    exact ⟨x3, rfl, b2.mono fun c hc => (f4 c (a4 c (b4 c hc).1).1).1⟩
theorem ow_tab2 {h : H} {v : AV} {a b c : Int} {l : Option (List Int)} {G : Nat → Prop} (ho : Ow h [v] [eI l] G) : Ow h [.agg [.int .i64 a, .int .i64 b, .int .i64 c, v]] [eTab a b c l] G := Ow.aggOf (.atom rfl (.atom rfl (.atom rfl ho)))

def sh_FnExactTableBySolving : List Sh := [.int .i64, .sl .str 1, .sl (.int .i64) 1, .int .i64, .int .i64]
set_option maxHeartbeats 1000000 in
theorem law_FnExactTableBySolving (ys : List AV) (hy : ArgsFit sh_FnExactTableBySolving ys) : Call Try.prog 4 ys [] Nowhere (fun x _ => x = .bool true) := by
  obtain ⟨x1, y1, rfl, h1, hy⟩ := argsFit_cons hy
  obtain ⟨x2, y2, rfl, h2, hy⟩ := argsFit_cons hy
  obtain ⟨x3, y3, rfl, h3, hy⟩ := argsFit_cons hy
  obtain ⟨x4, y4, rfl, h4, hy⟩ := argsFit_cons hy
  obtain ⟨x5, y5, rfl, h5, hy⟩ := argsFit_cons hy
  obtain rfl := argsFit_nil hy
  obtain ⟨seed, rfl, _, _⟩ := fit_int h1
  obtain ⟨keys, rfl⟩ := fit_strs h2
  obtain ⟨vals, rfl⟩ := fit_ints h3
  obtain ⟨seg, rfl, _, _⟩ := fit_int h4
  obtain ⟨width, rfl, _, _⟩ := fit_int h5
  refine (?_ : ∀ h, Call Try.prog 4 [.int .i64 seed, eS keys, eI vals, .int .i64 seg, .int .i64 width] h Nowhere (fun x _ => x = .bool true)) []
  intro h
  refine enter (by kernel_rfl) e4 (by kernel_rfl) rfl fun hok => ?_
  simp only [r4, initEnv_5]
  (try (simp (disch := first | omega | (simp <;> omega) | fail) only [push_cast, ↓reduceIte, Nat.reduceEqDiff, Nat.reduceAdd, Nat.reduceMul, Nat.reduceSub, Nat.reduceLT, Int.reduceToNat]))
  first | refine goC_split (fun hc => ?_) (fun hc => ?_) | refine cnd_split (fun hc => ?_) (fun hc => ?_)
  · (try (simp only [decide_eq_true_eq, decide_eq_false_iff_not, Bool.not_eq_true', Bool.not_eq_false', Bool.and_eq_true, Bool.or_eq_true, Int.not_lt, Int.not_le] at hc)); (try (simp (disch := first | omega | (simp <;> omega) | fail) only [push_cast, ↓reduceIte, Nat.reduceEqDiff, Nat.reduceAdd, Nat.reduceMul, Nat.reduceSub, Nat.reduceLT, Int.reduceToNat]))
  (try (simp only [decide_eq_true_eq, decide_eq_false_iff_not, Bool.not_eq_true', Bool.not_eq_false', Bool.and_eq_true, Bool.or_eq_true, Int.not_lt, Int.not_le] at hc)); (try (simp (disch := first | omega | (simp <;> omega) | fail) only [push_cast, ↓reduceIte, Nat.reduceEqDiff, Nat.reduceAdd, Nat.reduceMul, Nat.reduceSub, Nat.reduceLT, Int.reduceToNat]))
  refine (c_laws_szStringS keys 1048576 (by omega) (by omega)).call ?_
  (try (simp (disch := first | omega | (simp <;> omega) | fail) only [push_cast, ↓reduceIte, Nat.reduceEqDiff, Nat.reduceAdd, Nat.reduceMul, Nat.reduceSub, Nat.reduceLT, Int.reduceToNat]))
  first | refine goC_split (fun hd => ?_) (fun hd => ?_) | refine cnd_split (fun hd => ?_) (fun hd => ?_)
  · (try (simp only [decide_eq_true_eq, decide_eq_false_iff_not, Bool.not_eq_true', Bool.not_eq_false', Bool.and_eq_true, Bool.or_eq_true, Int.not_lt, Int.not_le] at hd)); (try (simp (disch := first | omega | (simp <;> omega) | fail) only [push_cast, ↓reduceIte, Nat.reduceEqDiff, Nat.reduceAdd, Nat.reduceMul, Nat.reduceSub, Nat.reduceLT, Int.reduceToNat]))
  (try (simp only [decide_eq_true_eq, decide_eq_false_iff_not, Bool.not_eq_true', Bool.not_eq_false', Bool.and_eq_true, Bool.or_eq_true, Int.not_lt, Int.not_le] at hd)); (try (simp (disch := first | omega | (simp <;> omega) | fail) only [push_cast, ↓reduceIte, Nat.reduceEqDiff, Nat.reduceAdd, Nat.reduceMul, Nat.reduceSub, Nat.reduceLT, Int.reduceToNat]))
  have hw3 := szv_ok hd
  have hl : (lS keys).length ≤ 1048576 := by unfold wS at hw3; omega
  have hl2 : (lI vals).length ≤ 1048576 := by omega
  clear hc hd hw3
  refine (c_laws_toStringS keys hl).call ?_
  (try (simp (disch := first | omega | (simp <;> omega) | fail) only [push_cast, ↓reduceIte, Nat.reduceEqDiff, Nat.reduceAdd, Nat.reduceMul, Nat.reduceSub, Nat.reduceLT, Int.reduceToNat]))
  refine (c_laws_toIntS vals hl2).call ?_
  (try (simp (disch := first | omega | (simp <;> omega) | fail) only [push_cast, ↓reduceIte, Nat.reduceEqDiff, Nat.reduceAdd, Nat.reduceMul, Nat.reduceSub, Nat.reduceLT, Int.reduceToNat]))
  refine (c_spec_TableBySolving seed seg width (some (lS keys)) (some (lI vals))).call ?_
  obtain ⟨a, b, c, l, q, hv, hal⟩ := tabSolV_tup seed seg width (some (lS keys)) (some (lI vals))
  have himpl := c_impl_TableBySolving_o seed seg width (some (lS keys)) (some (lI vals))
  rw [hv] at himpl ⊢
  clear hv
  have heT := c_laws_eqTable a b c l
  have huT : eTab a b c l = .agg [.int .i64 a, .int .i64 b, .int .i64 c, eI l] := rfl
  (try (simp (disch := first | omega | (simp <;> omega) | fail) only [push_cast, ↓reduceIte, Nat.reduceEqDiff, Nat.reduceAdd, Nat.reduceMul, Nat.reduceSub, Nat.reduceLT, Int.reduceToNat, huT]))
  refine (c_laws_toStringS_o keys hl).go fun x t g1 hR hx1 how1 => ?_
  subst hR
  obtain ⟨b1, rfl⟩ := Ow.sl1 (show Ow g1 [x] [.ro 1 _ _] _ from how1)
  have hb1 : H.cells g1 h.length = some [.int .i64 a, .int .i64 b, .int .i64 c, eI l] := hx1.cells (by rw [cells_h0]; rfl)
  (try (simp (disch := first | omega | (simp <;> omega) | fail) only [push_cast, ↓reduceIte, Nat.reduceEqDiff, Nat.reduceAdd, Nat.reduceMul, Nat.reduceSub, Nat.reduceLT, Int.reduceToNat]))
  refine (c_laws_toIntS_o vals hl2).go fun x t g2 hR hx2 how2 => ?_
  subst hR
  obtain ⟨b2, rfl⟩ := Ow.sl1 (show Ow g2 [x] [.ro 1 _ _] _ from how2)
  have how1 := hx2.ow how1
  have l1 := hx1.len
  have l2 := hx2.len
  simp only [List.length_append, List.length_cons, List.length_nil] at l1 how1
  (try (simp (disch := first | omega | (simp <;> omega) | fail) only [push_cast, ↓reduceIte, Nat.reduceEqDiff, Nat.reduceAdd, Nat.reduceMul, Nat.reduceSub, Nat.reduceLT, Int.reduceToNat]))
  refine himpl.goL (.free free_int (.cons how1.vw0 (.cons how2.vw0 (.free free_int (.free free_int .nil))))) fun y t g3 hR hx3 how3' => ?_
  subst hR
  obtain ⟨y0, rfl, how3''⟩ := ow_tup2 how3'
  obtain ⟨g0, rfl, how3⟩ := ow_tab how3''
  clear how3' how3''
  have og := ow_ints how3
  have l3 := hx3.len
  have how1 := hx3.ow2 how1 (by omega)
  have how2 := hx3.ow how2
  have hb3 := hx3.cells (hx2.cells hb1)
  have heqV : Fn Try.prog 12 [eI (some (lI vals)), eI (some (lI vals))] (· = .bool true) := by
    have := c_laws_eqIntS (some (lI vals)) (some (lI vals))
    simpa using this
  have heqS : Fn Try.prog 13 [eS (some (lS keys)), eS (some (lS keys))] (· = .bool true) := by
    have := c_laws_eqStringS (some (lS keys)) (some (lS keys))
    simpa using this
  (try (simp (disch := first | omega | (simp <;> omega) | fail) only [push_cast, ↓reduceIte, Nat.reduceEqDiff, Nat.reduceAdd, Nat.reduceMul, Nat.reduceSub, Nat.reduceLT, Int.reduceToNat, og.1, og.2, hb3]))
  have e4 : Ext g3 (g3 ++ [some (AObj.cells [AV.int .i64 a, .int .i64 b, .int .i64 c, g0])]) := Ext.refl.app
  have hx16 : H.cells (g3 ++ [some (AObj.cells [AV.int .i64 a, .int .i64 b, .int .i64 c, g0])]) g3.length = some [AV.int .i64 a, .int .i64 b, .int .i64 c, g0] := by rw [cells_h0]; rfl
  generalize g3 ++ [some (AObj.cells [AV.int .i64 a, .int .i64 b, .int .i64 c, g0])] = g4 at *
  have how1 := e4.ow2 how1 (by omega)
  have how2 := e4.ow2 how2 (by omega)
  have how3 := e4.ow how3
  have hb4 := e4.cells hb3
  have l4 := cells_lt hx16
  (try (simp (disch := first | omega | (simp <;> omega) | fail) only [push_cast, ↓reduceIte, Nat.reduceEqDiff, Nat.reduceAdd, Nat.reduceMul, Nat.reduceSub, Nat.reduceLT, Int.reduceToNat, hx16, hb4]))
  refine heT.lendL (.cons (ow_tab2 how3).vw0 (.free free_eTab .nil)) own_bool ?_
  (try (simp (disch := first | omega | (simp <;> omega) | fail) only [push_cast, ↓reduceIte, Nat.reduceEqDiff, Nat.reduceAdd, Nat.reduceMul, Nat.reduceSub, Nat.reduceLT, Int.reduceToNat]))
  refine (c_laws_toStringS keys hl).call ?_
  (try (simp (disch := first | omega | (simp <;> omega) | fail) only [push_cast, ↓reduceIte, Nat.reduceEqDiff, Nat.reduceAdd, Nat.reduceMul, Nat.reduceSub, Nat.reduceLT, Int.reduceToNat]))
  refine heqS.lendL (.cons how1.vw0 (.free free_eS .nil)) own_bool ?_
  (try (simp (disch := first | omega | (simp <;> omega) | fail) only [push_cast, ↓reduceIte, Nat.reduceEqDiff, Nat.reduceAdd, Nat.reduceMul, Nat.reduceSub, Nat.reduceLT, Int.reduceToNat]))
  refine (c_laws_toIntS vals hl2).call ?_
  (try (simp (disch := first | omega | (simp <;> omega) | fail) only [push_cast, ↓reduceIte, Nat.reduceEqDiff, Nat.reduceAdd, Nat.reduceMul, Nat.reduceSub, Nat.reduceLT, Int.reduceToNat]))
  refine heqV.lendL (.cons how2.vw0 (.free free_eI .nil)) own_bool ?_
  (try (simp (disch := first | omega | (simp <;> omega) | fail) only [push_cast, ↓reduceIte, Nat.reduceEqDiff, Nat.reduceAdd, Nat.reduceMul, Nat.reduceSub, Nat.reduceLT, Int.reduceToNat]))
  refine (c_laws_markStringS_ow _ (lS keys) _ 1 _ how1 (by omega) (by omega)).mono (fun x g5 hx => ?_) (fun c _ hc => Or.inr (by have := hc.1; omega))
  obtain ⟨rfl, hk1⟩ := hx
  have how2 := hk1.ow how2 fun c hc hd => by have := hc.1; have := hd.2; omega
  have how3 := hk1.ow how3 fun c hc hd => by have := hc.1; have := hd.2; omega
  have hb5 := cells_keep (hk1.2 _ fun hc => by have := hc.1; omega) hb4
  have hx5 := cells_keep (hk1.2 _ fun hc => by have := hc.2; omega) hx16
  (try (simp (disch := first | omega | (simp <;> omega) | fail) only [push_cast, ↓reduceIte, Nat.reduceEqDiff, Nat.reduceAdd, Nat.reduceMul, Nat.reduceSub, Nat.reduceLT, Int.reduceToNat]))
  refine (c_laws_markIntS _ (some (lI vals)) _ _ _ how2 (by omega) (show (1 : Int) + ((lS keys).length : Int) + ((lI vals).length : Int) ≤ 100000000 by omega)).mono (fun x g6 hx => ?_) (fun c _ hc => Or.inr (by have := hc.1; omega))
  obtain ⟨rfl, hk2, _⟩ := hx
  have how3 := hk2.ow how3 fun c hc hd => by have := hc.1; have := hd.2; omega
  have hb6 := cells_keep (hk2.2 _ fun hc => by have := hc.1; omega) hb5
  have hx6 := cells_keep (hk2.2 _ fun hc => by have := hc.2; omega) hx5
  have hll : (lI (some (lI vals))).length = (lI vals).length := rfl
  have l6 := cells_lt hx6
  rw [hll]
  (try (simp (disch := first | omega | (simp <;> omega) | fail) only [push_cast, ↓reduceIte, Nat.reduceEqDiff, Nat.reduceAdd, Nat.reduceMul, Nat.reduceSub, Nat.reduceLT, Int.reduceToNat, hx6, hb6]))
  refine heT.lendL (.cons (ow_tab2 how3).vw0 (.free free_eTab .nil)) own_bool ?_
  (try (simp (disch := first | omega | (simp <;> omega) | fail) only [push_cast, ↓reduceIte, Nat.reduceEqDiff, Nat.reduceAdd, Nat.reduceMul, Nat.reduceSub, Nat.reduceLT, Int.reduceToNat, hx6, hb6]))
  refine (c_laws_markTable g0 a b c l _ 1 _ how3 (fun c hc => by have := hc.2; omega) og.1 og.2 (by omega) (by omega)).mono (fun x g7 hx => ?_) (fun c _ hc => Or.inr (by have := hc.1; omega))
  obtain ⟨rfl, hk3, how5⟩ := hx
  have hb7 := cells_keep (hk3.2 _ (by omega) fun hc => by have := hc.1; omega) hb6
  have hx7 := cells_keep (hk3.2 _ l6 fun hc => by have := hc.2; omega) hx6
  have l7 := cells_lt hx7
  (try (simp (disch := first | omega | (simp <;> omega) | fail) only [push_cast, ↓reduceIte, Nat.reduceEqDiff, Nat.reduceAdd, Nat.reduceMul, Nat.reduceSub, Nat.reduceLT, Int.reduceToNat, hx7]))
  refine (c_laws_heldTable a b c l 1 (by omega) (by omega)).lendL (.cons (ow_tab2 how5).vw0 (.free free_int .nil)) own_int ?_
  (try (simp (disch := first | omega | (simp <;> omega) | fail) only [push_cast, ↓reduceIte, Nat.reduceEqDiff, Nat.reduceAdd, Nat.reduceMul, Nat.reduceSub, Nat.reduceLT, Int.reduceToNat, hx7]))
  refine (c_laws_toStringS keys hl).call ?_
  (try (simp (disch := first | omega | (simp <;> omega) | fail) only [push_cast, ↓reduceIte, Nat.reduceEqDiff, Nat.reduceAdd, Nat.reduceMul, Nat.reduceSub, Nat.reduceLT, Int.reduceToNat]))
  refine (c_laws_toIntS vals hl2).call ?_
  (try (simp (disch := first | omega | (simp <;> omega) | fail) only [push_cast, ↓reduceIte, Nat.reduceEqDiff, Nat.reduceAdd, Nat.reduceMul, Nat.reduceSub, Nat.reduceLT, Int.reduceToNat]))
  refine himpl.fn.call ?_
  (try (simp (disch := first | omega | (simp <;> omega) | fail) only [push_cast, ↓reduceIte, Nat.reduceEqDiff, Nat.reduceAdd, Nat.reduceMul, Nat.reduceSub, Nat.reduceLT, Int.reduceToNat, huT, hb7]))
  have hb8 := cells_app (l := [some (AObj.cells [AV.int .i64 a, .int .i64 b, .int .i64 c, eI l])]) hb7
  have hx8 := cells_app (l := [some (AObj.cells [AV.int .i64 a, .int .i64 b, .int .i64 c, eI l])]) hx7
  have how8 : Ow (g7 ++ [some (AObj.cells [AV.int .i64 a, .int .i64 b, .int .i64 c, eI l])]) [g0] [eI (mkI 1 l)] _ := how5.frame fun c hc => List.getElem?_append_left (by have := hc.2; omega)
  (try (simp (disch := first | omega | (simp <;> omega) | fail) only [push_cast, ↓reduceIte, Nat.reduceEqDiff, Nat.reduceAdd, Nat.reduceMul, Nat.reduceSub, Nat.reduceLT, Int.reduceToNat, hb8, hb7]))
  refine heT.call ?_
  (try (simp (disch := first | omega | (simp <;> omega) | fail) only [push_cast, ↓reduceIte, Nat.reduceEqDiff, Nat.reduceAdd, Nat.reduceMul, Nat.reduceSub, Nat.reduceLT, Int.reduceToNat, hx8, hx7]))
  refine (c_laws_heldTable a b c l 1 (by omega) (by omega)).lendL (.cons (ow_tab2 how8).vw0 (.free free_int .nil)) own_int ?_
  (try (simp (disch := first | omega | (simp <;> omega) | fail) only [push_cast, ↓reduceIte, Nat.reduceEqDiff, Nat.reduceAdd, Nat.reduceMul, Nat.reduceSub, Nat.reduceLT, Int.reduceToNat, hx8, hx7]))

end Go.Proofs.Ytjfgmimgmapeeaa.M
