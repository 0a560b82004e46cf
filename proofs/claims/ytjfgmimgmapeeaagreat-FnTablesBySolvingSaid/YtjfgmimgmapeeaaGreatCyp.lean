/-
  What the functions return.
-/
import Derived.Test.YtjfgmimgmapeeaaGreatFyp
import Derived.Test.YtjfgmimgmapeeaaGreatCyf
namespace Go.Proofs.YtjfgmimgmapeeaaGreat.M
open Go Go.RowKit
set_option linter.unusedVariables false
set_option linter.unusedSimpArgs false
set_option maxRecDepth 4000

/-- How often a place lies in the first so many edges that are not gone. -/
def cnt (E : List (List Int)) (gone : List Bool) : Nat → Int → Nat
  | 0, _ => 0
  | i + 1, p => cnt E gone i p + (if gone.getD i false then 0 else (E.getD i []).count p)
def degL (n : Nat) (E : List (List Int)) (gone : List Bool) : List Int := (List.range n).map fun p : Nat => ((cnt E gone E.length (p : Int) : Nat) : Int)
/-- The counts so far. -/
def degT (n : Nat) (E : List (List Int)) (gone : List Bool) (i : Nat) (e : List Int) (j : Nat) : List Int := (List.range n).map fun p : Nat => ((cnt E gone i (p : Int) + (e.take j).count (p : Int) : Nat) : Int)
theorem degT_len {n : Nat} {E : List (List Int)} {gone : List Bool} {i : Nat} {e : List Int} {j : Nat} : (degT n E gone i e j).length = n := by simp [degT]
theorem degT_zero {n : Nat} {E : List (List Int)} {gone : List Bool} {e : List Int} : List.replicate n (AV.int .i64 0) = (degT n E gone 0 e 0).map (.int .i64) := by
  refine List.ext_getElem? fun p => ?_
  by_cases hp : p < n
  · simp [degT, hp, cnt]
  · rw [List.getElem?_eq_none (by simp; omega), List.getElem?_eq_none (by simp [degT_len]; omega)]
theorem degT_nil {n : Nat} {E : List (List Int)} {gone : List Bool} {i : Nat} {e e' : List Int} : degT n E gone i e 0 = degT n E gone i e' 0 := by simp [degT]
theorem degT_next {n : Nat} {E : List (List Int)} {gone : List Bool} {i : Nat} {e e' : List Int} (hg : gone.getD i false = false) (he : E.getD i [] = e) : degT n E gone i e e.length = degT n E gone (i + 1) e' 0 := by
  unfold degT
  refine List.map_congr_left fun p _ => ?_
  simp only [cnt, hg, he, Bool.false_eq_true, if_false, List.take_length, List.take_zero, List.count_nil, Nat.add_zero]
theorem degT_skip {n : Nat} {E : List (List Int)} {gone : List Bool} {i : Nat} {e e' : List Int} (hg : gone.getD i false = true) : degT n E gone i e 0 = degT n E gone (i + 1) e' 0 := by
  unfold degT
  refine List.map_congr_left fun p _ => ?_
  simp only [cnt, hg, if_true, List.take_zero, List.count_nil, Nat.add_zero]
theorem degT_get {n : Nat} {E : List (List Int)} {gone : List Bool} {i : Nat} {e : List Int} {j p : Nat} (hp : p < n) : ((degT n E gone i e j).map (AV.int .i64))[p]? = some (.int .i64 ((cnt E gone i (p : Int) + (e.take j).count (p : Int) : Nat) : Int)) := by simp [degT, hp]
theorem degT_put {n : Nat} {E : List (List Int)} {gone : List Bool} {i : Nat} {e : List Int} {j p : Nat} (hj : j < e.length) (he : e.getD j 0 = (p : Int)) (hp : p < n) : over ((degT n E gone i e j).map (AV.int .i64)) p [.int .i64 ((cnt E gone i (p : Int) + (e.take j).count (p : Int) : Nat) + 1 : Int)] = (degT n E gone i e (j + 1)).map (.int .i64) := by
  have htk : e.take (j + 1) = e.take j ++ [(p : Int)] := by
    rw [List.take_add_one]
    congr 1
    rw [List.getD_eq_getElem?_getD, List.getElem?_eq_getElem hj] at he
    simp only [Option.getD_some] at he
    simp [hj, he]
  rw [over_set (by simp [degT_len, hp])]
  refine List.ext_getElem? fun q => ?_
  by_cases hq : q < n
  · by_cases h2 : q = p
    · subst h2
      rw [List.getElem?_set_self (by simp [degT_len, hp])]
      simp [degT, hq, htk]
      omega
    · rw [List.getElem?_set_ne (Ne.symm h2)]
      have h3 : List.count (q : Int) [(p : Int)] = 0 := by
        rw [List.count_eq_zero]
        simp
        omega
      simp [degT, hq, htk, h3]
  · rw [List.getElem?_eq_none (by simp [degT_len]; omega), List.getElem?_eq_none (by simp [degT_len]; omega)]
theorem degL_eq {n : Nat} {E : List (List Int)} {gone : List Bool} {e : List Int} : degT n E gone E.length e 0 = degL n E gone := by simp [degT, degL]
/-- The single places, the least first. -/
def sing (n : Nat) (E : List (List Int)) (gone : List Bool) : List Nat := (List.range n).filter fun p => decide (cnt E gone E.length (p : Int) = 1)
def singTo (n : Nat) (E : List (List Int)) (gone : List Bool) (i : Nat) : List Nat := (List.range i).filter fun p => decide (cnt E gone E.length (p : Int) = 1)
theorem singTo_succ {n : Nat} {E : List (List Int)} {gone : List Bool} {i : Nat} : singTo n E gone (i + 1) = if cnt E gone E.length (i : Int) = 1 then singTo n E gone i ++ [i] else singTo n E gone i := by
  unfold singTo
  rw [List.range_succ, List.filter_append]
  by_cases h : cnt E gone E.length (i : Int) = 1 <;> simp [h]
theorem singTo_len {n : Nat} {E : List (List Int)} {gone : List Bool} {i : Nat} : (singTo n E gone i).length ≤ i := Nat.le_trans (List.length_filter_le _ _) (by simp)
def leftTo (gone : List Bool) (i : Nat) : List Nat := (List.range i).filter fun p => !gone.getD p false
theorem leftTo_succ {gone : List Bool} {i : Nat} : leftTo gone (i + 1) = if gone.getD i false then leftTo gone i else leftTo gone i ++ [i] := by
  unfold leftTo
  rw [List.range_succ, List.filter_append]
  cases h : gone.getD i false
  · simp only [List.filter_cons, h, List.filter_nil, Bool.not_false, if_true, Bool.false_eq_true, if_false]
  · simp only [List.filter_cons, h, List.filter_nil, Bool.not_true, if_true, Bool.false_eq_true, if_false, List.append_nil]
theorem leftTo_len {gone : List Bool} {i : Nat} : (leftTo gone i).length ≤ i := Nat.le_trans (List.length_filter_le _ _) (by simp)
def nI (l : List Nat) : List Int := l.map fun x : Nat => (x : Int)
/-- The edge that holds a place, of those that are not gone. -/
def edgeOf (E : List (List Int)) (gone : List Bool) (p : Int) : Nat := ((List.range E.length).find? fun i => !gone.getD i false && decide (p ∈ E.getD i [])).getD 0
theorem cnt_pos {E : List (List Int)} {gone : List Bool} {p : Int} : ∀ {i : Nat}, 0 < cnt E gone i p → ∃ k, k < i ∧ gone.getD k false = false ∧ p ∈ E.getD k []
  | 0, h => by simp [cnt] at h
  | i + 1, h => by
    simp only [cnt] at h
    by_cases h0 : 0 < cnt E gone i p
    · obtain ⟨k, h1, h2⟩ := cnt_pos h0
      exact ⟨k, by omega, h2⟩
    · by_cases hg : gone.getD i false = true
      · rw [if_pos hg] at h
        omega
      · rw [if_neg hg] at h
        exact ⟨i, by omega, by simpa using hg, List.count_pos_iff.1 (by omega)⟩
theorem edgeOf_spec {E : List (List Int)} {gone : List Bool} {p : Int} (h : 0 < cnt E gone E.length p) : edgeOf E gone p < E.length ∧ gone.getD (edgeOf E gone p) false = false ∧ p ∈ E.getD (edgeOf E gone p) [] ∧ ∀ k, k < edgeOf E gone p → gone.getD k false = true ∨ p ∉ E.getD k [] := by
  obtain ⟨k, h1, h2, h3⟩ := cnt_pos h
  unfold edgeOf
  cases hf : (List.range E.length).find? fun i => !gone.getD i false && decide (p ∈ E.getD i []) with
  | none =>
    rw [List.find?_eq_none] at hf
    have := hf k (List.mem_range.2 h1)
    rw [h2, decide_eq_true h3] at this
    exact absurd rfl this
  | some i =>
    have hi := List.find?_some hf
    have hm := List.mem_range.1 (List.mem_of_find?_eq_some hf)
    simp only [Bool.and_eq_true, Bool.not_eq_true', decide_eq_true_eq] at hi
    refine ⟨hm, hi.1, hi.2, fun k hk => ?_⟩
    have hk : k < i := hk
    obtain ⟨xs, ys, he, hn⟩ := (List.find?_eq_some_iff_append.1 hf).2
    have hka : k ∈ xs := by
      have hlen : xs.length = i := by
        have h5 : (List.range E.length)[xs.length]? = some i := by rw [he]; simp
        rw [List.getElem?_range (by
          have := congrArg List.length he
          simp at this
          omega)] at h5
        injection h5
      have h6 : (List.range E.length)[k]? = some k := List.getElem?_range (by omega)
      rw [he, List.getElem?_append_left (by omega)] at h6
      exact List.mem_of_getElem? h6
    have := hn k hka
    cases hg : gone.getD k false with
    | true => exact .inl rfl
    | false =>
      right
      intro hm2
      rw [hg, decide_eq_true hm2] at this
      cases this

theorem c_impl_Hyper_none_own (n : Int) (o : Option (List (List Int))) (h : H) (hl : (lIS o).length ≤ 1000) : Call Tryz.prog 169 [.rad [.int .i64 n, eIS o] 0] h Nowhere (fun x h' => ∃ b, x = .sl b 0 1 (lIS o).length (lIS o).length ∧ h.length ≤ b ∧ (∃ p, h' = h ++ p) ∧ h'.cells b = some ((List.replicate (lIS o).length false).map .bool)) := by
  refine enter (by kernel_rfl) e169 (by kernel_rfl) rfl fun hok => ?_
  simp only [r169, initEnv_1]
  (try (simp (disch := first | omega | (simp <;> omega) | fail) only [push_cast, ↓reduceIte, Nat.reduceEqDiff, Nat.reduceAdd, Nat.reduceMul, Nat.reduceSub, Nat.reduceLT, Int.reduceToNat]))
  all_goals (try exact ⟨h.length, rfl, Nat.le_refl _, ⟨_, rfl⟩, by rw [cells_h0]; simp [cellsO]⟩)

theorem c_impl_left_o (gone : List Bool) (hg : gone.length ≤ 1000) : FnO Tryz.prog 171 [eO (some gone)] (· = eI (some (nI (leftTo gone gone.length)))) := by
  intro h
  refine enter (by kernel_rfl) e171 (by kernel_rfl) rfl fun hok => ?_
  simp only [r171, initEnv_1]
  (try (simp (disch := first | omega | (simp <;> omega) | fail) only [push_cast, ↓reduceIte, Nat.reduceEqDiff, Nat.reduceAdd, Nat.reduceMul, Nat.reduceSub, Nat.reduceLT, Int.reduceToNat]))
  refine T_for gone.length (fun i e g => ∃ v B, Pins e [(3, v), (7, eO (some gone)), (8, .int .i64 gone.length), (9, .int .i64 i)] ∧ S1 g 1 v (leftTo gone i).length ((nI (leftTo gone i)).map (.int .i64)) B ∧ (∀ k ∈ B, h.length ≤ k) ∧ v ≠ .nils ∧ h.length ≤ g.length) ?_ ?_
  · refine ⟨.sl h.length 0 1 0 0, [h.length], ?_, ⟨rfl, .inr ⟨h.length, rfl, rfl, by rw [cells_h0]; rfl⟩⟩, by simp, by simp, by simp⟩
    (try (simp (disch := first | omega | (simp <;> omega) | fail) only [push_cast, ↓reduceIte, Nat.reduceEqDiff, Nat.reduceAdd, Nat.reduceMul, Nat.reduceSub, Nat.reduceLT, Int.reduceToNat]))
    all_goals (try rfl)
  rintro i e g hi ⟨v, B, hp, hS, hB, hv, hlen⟩
  refine T_pins hp fun e => ?_
  (try (simp (disch := first | omega | (simp <;> omega) | fail) only [push_cast, ↓reduceIte, Nat.reduceEqDiff, Nat.reduceAdd, Nat.reduceMul, Nat.reduceSub, Nat.reduceLT, Int.reduceToNat]))
  first | refine goC_split (fun hc => ?_) (fun hc => ?_) | refine cnd_split (fun hc => ?_) (fun hc => ?_)
  · (try (simp only [decide_eq_true_eq, decide_eq_false_iff_not, Bool.not_eq_true', Bool.not_eq_false', Bool.and_eq_true, Bool.or_eq_true, Int.not_lt, Int.not_le] at hc)); (try (simp (disch := first | omega | (simp <;> omega) | fail) only [push_cast, ↓reduceIte, Nat.reduceEqDiff, Nat.reduceAdd, Nat.reduceMul, Nat.reduceSub, Nat.reduceLT, Int.reduceToNat]))
    have hi2 : i < gone.length := by omega
    have hget : (gone.map AV.bool)[i]? = some (.bool (gone.getD i false)) := by simp [hi2]
    have hia : iaddrA 1 (eO (some gone)) (.int .i64 i) = some (.rad (gone.map AV.bool) i) := (iaddrA_ro (by omega) (by omega)).trans (by simp)
    have hsc := leftTo_succ (gone := gone) (i := i)
    have hll := leftTo_len (gone := gone) (i := i)
    cases hgi : gone.getD i false
    · rw [hgi] at hget hsc
      simp only [Bool.false_eq_true, if_false] at hsc
      (try (simp (disch := first | omega | (simp <;> omega) | fail) only [push_cast, ↓reduceIte, Nat.reduceEqDiff, Nat.reduceAdd, Nat.reduceMul, Nat.reduceSub, Nat.reduceLT, Int.reduceToNat, hia, hget]))
      refine (hS.frame (h' := g ++ _) fun k hk => List.getElem?_append_left (hS.lt k hk)).app0 (new := [.int .i64 i]) (k := 1) (by_ := 8) (fun k hk => Or.inr (hB k hk)) rfl (by omega) fun u2 g2 B2 a1 a2 a3 a4 a5 => ?_
      simp only [List.length_append, List.length_cons, List.length_nil] at a2 a3 a4
      have hS2 : S1 g2 1 u2 (leftTo gone (i + 1)).length ((nI (leftTo gone (i + 1))).map (.int .i64)) B2 := by
        rw [hsc]
        simpa [nI] using a1
      have hB2 : ∀ k ∈ B2, h.length ≤ k := fun k hk => by
        rcases a4 k hk with h5 | h5
        · exact hB k h5
        · omega
      have hn2 : u2 ≠ .nils := a5 hv
      have hl2 : h.length ≤ g2.length := by omega
      (try (simp (disch := first | omega | (simp <;> omega) | fail) only [push_cast, ↓reduceIte, Nat.reduceEqDiff, Nat.reduceAdd, Nat.reduceMul, Nat.reduceSub, Nat.reduceLT, Int.reduceToNat]))
      all_goals (try exact ⟨_, _, rfl, hS2, hB2, hn2, hl2⟩)
      all_goals (try exact ⟨_, _, rfl, hS2, hB2, hn2⟩)
    · rw [hgi] at hget hsc
      simp only [if_true] at hsc
      rw [← hsc] at hS
      (try (simp (disch := first | omega | (simp <;> omega) | fail) only [push_cast, ↓reduceIte, Nat.reduceEqDiff, Nat.reduceAdd, Nat.reduceMul, Nat.reduceSub, Nat.reduceLT, Int.reduceToNat, hia, hget]))
      all_goals (try exact ⟨_, _, rfl, hS, hB, hv, hlen⟩)
      all_goals (try exact ⟨_, _, rfl, hS, hB, hv⟩)
  · (try (simp only [decide_eq_true_eq, decide_eq_false_iff_not, Bool.not_eq_true', Bool.not_eq_false', Bool.and_eq_true, Bool.or_eq_true, Int.not_lt, Int.not_le] at hc)); (try (simp (disch := first | omega | (simp <;> omega) | fail) only [push_cast, ↓reduceIte, Nat.reduceEqDiff, Nat.reduceAdd, Nat.reduceMul, Nat.reduceSub, Nat.reduceLT, Int.reduceToNat]))
    have hie : i = gone.length := by omega
    subst hie
    have hfin := hS.ow (f := AV.int .i64) (fun _ => rfl) hB hv
    have hnl : (leftTo gone gone.length).length = (nI (leftTo gone gone.length)).length := by simp [nI]
    rw [hnl] at hfin
    (try (simp (disch := first | omega | (simp <;> omega) | fail) only [push_cast, ↓reduceIte, Nat.reduceEqDiff, Nat.reduceAdd, Nat.reduceMul, Nat.reduceSub, Nat.reduceLT, Int.reduceToNat]))
    all_goals (try exact ⟨_, hfin, rfl⟩)

theorem c_impl_Hyper_degrees_o (n : Nat) (o : Option (List (List Int))) (gone : List Bool) (hg : gone.length = (lIS o).length) (hE : ∀ e ∈ lIS o, ∀ p ∈ e, 0 ≤ p ∧ p < (n : Int)) (hn : n ≤ 1000) (hl : (lIS o).length ≤ 1000) (he : ∀ e ∈ lIS o, e.length ≤ 1000) (hcb : ∀ i p, cnt (lIS o) gone i p ≤ 1000000) :
    FnO Tryz.prog 189 [.rad [.int .i64 n, eIS o] 0, eO (some gone)] (· = eI (some (degL n (lIS o) gone))) := by
  intro h
  refine enter (by kernel_rfl) e189 (by kernel_rfl) rfl fun hok => ?_
  simp only [r189, initEnv_2]
  have hz := fun e => degT_zero (n := n) (E := lIS o) (gone := gone) (e := e)
  (try (simp (disch := first | omega | (simp <;> omega) | fail) only [push_cast, ↓reduceIte, Nat.reduceEqDiff, Nat.reduceAdd, Nat.reduceMul, Nat.reduceSub, Nat.reduceLT, Int.reduceToNat]))
  refine T_for (lIS o).length (fun i e g => Pins e [(1, eO (some gone)), (5, .sl h.length 0 1 n n), (18, eIS o), (19, .int .i64 (lIS o).length), (20, .int .i64 i)] ∧ h.length < g.length ∧ g.cells h.length = some ((degT n (lIS o) gone i [] 0).map (.int .i64))) ?_ ?_
  · (try (simp (disch := first | omega | (simp <;> omega) | fail) only [push_cast, ↓reduceIte, Nat.reduceEqDiff, Nat.reduceAdd, Nat.reduceMul, Nat.reduceSub, Nat.reduceLT, Int.reduceToNat]))
    all_goals (try exact ⟨by simp, by rw [cells_h0]; simp only [cellsO, List.getElem?_cons_zero]; rw [← hz []]⟩)
    all_goals (try exact congrArg some (hz []))
  rintro i e g hi ⟨hp, hlt, hc0⟩
  refine T_pins hp fun e => ?_
  (try (simp (disch := first | omega | (simp <;> omega) | fail) only [push_cast, ↓reduceIte, Nat.reduceEqDiff, Nat.reduceAdd, Nat.reduceMul, Nat.reduceSub, Nat.reduceLT, Int.reduceToNat]))
  first | refine goC_split (fun hc => ?_) (fun hc => ?_) | refine cnd_split (fun hc => ?_) (fun hc => ?_)
  · (try (simp only [decide_eq_true_eq, decide_eq_false_iff_not, Bool.not_eq_true', Bool.not_eq_false', Bool.and_eq_true, Bool.or_eq_true, Int.not_lt, Int.not_le] at hc)); (try (simp (disch := first | omega | (simp <;> omega) | fail) only [push_cast, ↓reduceIte, Nat.reduceEqDiff, Nat.reduceAdd, Nat.reduceMul, Nat.reduceSub, Nat.reduceLT, Int.reduceToNat]))
    have hi2 : i < (lIS o).length := by omega
    have hget : (gone.map AV.bool)[i]? = some (.bool (gone.getD i false)) := get_O (by omega)
    have hia : iaddrA 1 (eO (some gone)) (.int .i64 i) = some (.rad (gone.map AV.bool) i) := (iaddrA_ro (by omega) (by omega)).trans (by simp)
    have hEi := hE ((lIS o).getD i []) (getD_mem hi2)
    have hel := he ((lIS o).getD i []) (getD_mem hi2)
    obtain ⟨E1, hE1⟩ : ∃ E1, E1 = (lIS o).getD i [] := ⟨_, rfl⟩
    rw [← hE1] at hEi hel
    have hgE : ((lIS o).map fun e => eI (some e))[i]? = some (eI (some E1)) := by rw [hE1]; simp [hi2]
    cases hgi : gone.getD i false
    · rw [hgi] at hget
      (try (simp (disch := first | omega | (simp <;> omega) | fail) only [push_cast, ↓reduceIte, Nat.reduceEqDiff, Nat.reduceAdd, Nat.reduceMul, Nat.reduceSub, Nat.reduceLT, Int.reduceToNat, hia, hget, hgE]))
      refine T_for E1.length (fun j e g' => Pins e [(1, eO (some gone)), (5, .sl h.length 0 1 n n), (18, eIS o), (19, .int .i64 (lIS o).length), (20, .int .i64 i), (29, eI (some E1)), (30, .int .i64 E1.length), (31, .int .i64 j)] ∧ h.length < g'.length ∧ g'.cells h.length = some ((degT n (lIS o) gone i E1 j).map (.int .i64))) ?_ ?_
      · rw [degT_nil (e' := E1)] at hc0
        (try (simp (disch := first | omega | (simp <;> omega) | fail) only [push_cast, ↓reduceIte, Nat.reduceEqDiff, Nat.reduceAdd, Nat.reduceMul, Nat.reduceSub, Nat.reduceLT, Int.reduceToNat]))
        all_goals (try exact ⟨⟨by rw [hE1], by rw [hE1]; rfl⟩, hc0⟩)
      rintro j e g' hj ⟨hp, hlt2, hc2⟩
      refine T_pins hp fun e => ?_
      (try (simp (disch := first | omega | (simp <;> omega) | fail) only [push_cast, ↓reduceIte, Nat.reduceEqDiff, Nat.reduceAdd, Nat.reduceMul, Nat.reduceSub, Nat.reduceLT, Int.reduceToNat]))
      first | refine goC_split (fun hd => ?_) (fun hd => ?_) | refine cnd_split (fun hd => ?_) (fun hd => ?_)
      · (try (simp only [decide_eq_true_eq, decide_eq_false_iff_not, Bool.not_eq_true', Bool.not_eq_false', Bool.and_eq_true, Bool.or_eq_true, Int.not_lt, Int.not_le] at hd)); (try (simp (disch := first | omega | (simp <;> omega) | fail) only [push_cast, ↓reduceIte, Nat.reduceEqDiff, Nat.reduceAdd, Nat.reduceMul, Nat.reduceSub, Nat.reduceLT, Int.reduceToNat]))
        have hj2 : j < E1.length := by omega
        obtain ⟨q0, q1⟩ := hEi (E1.getD j 0) (getD_mem hj2)
        obtain ⟨q, hq⟩ : ∃ q : Nat, E1.getD j 0 = (q : Int) := ⟨(E1.getD j 0).toNat, (Int.toNat_of_nonneg q0).symm⟩
        have hqn : q < n := by omega
        have hgj : (E1.map (AV.int .i64))[j]? = some (.int .i64 (q : Int)) := by rw [get_I hj2, hq]
        have hij : iaddrA 1 (eI (some E1)) (.int .i64 j) = some (.rad (E1.map (AV.int .i64)) j) := (iaddrA_ro (by omega) (by omega)).trans (by simp)
        have hgd := degT_get (E := lIS o) (gone := gone) (i := i) (e := E1) (j := j) hqn
        have hpt := degT_put (E := lIS o) (gone := gone) (i := i) hj2 hq hqn
        have hb1 := hcb i (q : Int)
        have hb2 : (E1.take j).count (q : Int) ≤ 1000 := Nat.le_trans List.count_le_length (by simp; omega)
        have hll : ((degT n (lIS o) gone i E1 j).map (AV.int .i64)).length = n := by simp [degT_len]
        have hpm : (h.length ≤ h.length) = True := by simp
        generalize hX : cnt (lIS o) gone i (q : Int) + (E1.take j).count (q : Int) = X at *
        (try (simp (disch := first | omega | (simp <;> omega) | fail) only [push_cast, ↓reduceIte, Nat.reduceEqDiff, Nat.reduceAdd, Nat.reduceMul, Nat.reduceSub, Nat.reduceLT, Int.reduceToNat, hij, hgj, hc2, hgd, hll, hpt, hpm]))
        all_goals (try exact ⟨by simpa [wr] using hlt2, cells_wr2 hlt2⟩)
        all_goals (try exact cells_wr2 hlt2)
      · (try (simp only [decide_eq_true_eq, decide_eq_false_iff_not, Bool.not_eq_true', Bool.not_eq_false', Bool.and_eq_true, Bool.or_eq_true, Int.not_lt, Int.not_le] at hd)); (try (simp (disch := first | omega | (simp <;> omega) | fail) only [push_cast, ↓reduceIte, Nat.reduceEqDiff, Nat.reduceAdd, Nat.reduceMul, Nat.reduceSub, Nat.reduceLT, Int.reduceToNat]))
        have hje : j = E1.length := by omega
        subst hje
        rw [degT_next (e' := []) hgi hE1.symm] at hc2
        (try (simp (disch := first | omega | (simp <;> omega) | fail) only [push_cast, ↓reduceIte, Nat.reduceEqDiff, Nat.reduceAdd, Nat.reduceMul, Nat.reduceSub, Nat.reduceLT, Int.reduceToNat]))
        all_goals (try exact hc2)
    · rw [hgi] at hget
      rw [degT_skip (e' := []) hgi] at hc0
      (try (simp (disch := first | omega | (simp <;> omega) | fail) only [push_cast, ↓reduceIte, Nat.reduceEqDiff, Nat.reduceAdd, Nat.reduceMul, Nat.reduceSub, Nat.reduceLT, Int.reduceToNat, hia, hget, hgE]))
      all_goals (try exact hc0)
  · (try (simp only [decide_eq_true_eq, decide_eq_false_iff_not, Bool.not_eq_true', Bool.not_eq_false', Bool.and_eq_true, Bool.or_eq_true, Int.not_lt, Int.not_le] at hc)); (try (simp (disch := first | omega | (simp <;> omega) | fail) only [push_cast, ↓reduceIte, Nat.reduceEqDiff, Nat.reduceAdd, Nat.reduceMul, Nat.reduceSub, Nat.reduceLT, Int.reduceToNat]))
    have hie : i = (lIS o).length := by omega
    subst hie
    rw [degL_eq] at hc0
    have hfin := ow_map (h := g) (b := h.length) (n := n) (f := AV.int .i64) (l := degL n (lIS o) gone) (G := fun c => h.length ≤ c) (fun _ => rfl) hc0 (by simp [degL]) (Nat.le_refl _)
    have hln : (degL n (lIS o) gone).length = n := by simp [degL]
    have hres : AV.ro 1 ((degL n (lIS o) gone).map (.int .i64)) n = eI (some (degL n (lIS o) gone)) := by
      unfold eI
      simp [hln]
    (try (simp (disch := first | omega | (simp <;> omega) | fail) only [push_cast, ↓reduceIte, Nat.reduceEqDiff, Nat.reduceAdd, Nat.reduceMul, Nat.reduceSub, Nat.reduceLT, Int.reduceToNat]))
    all_goals (try exact ⟨_, hfin, hres⟩)

theorem ow_atoms_eq2 {h : H} : ∀ {ts cs : List AV} {G : Nat → Prop}, Ow h cs ts G → (∀ t ∈ ts, M.atom t = true) → cs = ts
  | [], cs, G, ho, _ => List.eq_nil_of_length_eq_zero ho.len.symm
  | t :: ts, [], G, ho, _ => by cases ho
  | t :: ts, x :: cs, G, ho, ha => by
    obtain ⟨F, F', f1, f2, _, _⟩ := ho.uncons
    rw [f1.atomOf (ha t (by simp)), ow_atoms_eq2 f2 fun u hu => ha u (by simp [hu])]
/-- Numbers that came back, as they lie. -/
theorem ow_intsP {h : H} {x : AV} {l : List Int} {G : Nat → Prop} (ho : Ow h [x] [eI (some l)] G) : ∃ b, x = .sl b 0 1 l.length l.length ∧ G b ∧ h.cells b = some (l.map (.int .i64)) := by
  obtain ⟨b, cs, F, rfl, hc, hcl, hbn, hF, hin, hre⟩ := (show Ow h [x] [.ro 1 (l.map (.int .i64)) l.length] G from ho).open_
  refine ⟨b, rfl, hbn, ?_⟩
  rw [hc, ow_atoms_eq2 hin (by simp [M.atom])]
theorem c_impl_Hyper_singles_o (n : Nat) (o : Option (List (List Int))) (gone : List Bool) (hg : gone.length = (lIS o).length) (hE : ∀ e ∈ lIS o, ∀ p ∈ e, 0 ≤ p ∧ p < (n : Int)) (hn : n ≤ 1000) (hl : (lIS o).length ≤ 1000) (he : ∀ e ∈ lIS o, e.length ≤ 1000) (hcb : ∀ i p, cnt (lIS o) gone i p ≤ 1000000) :
    FnO Tryz.prog 170 [.rad [.int .i64 n, eIS o] 0, eO (some gone)] (· = eI (some (nI (sing n (lIS o) gone)))) := by
  intro h
  refine enter (by kernel_rfl) e170 (by kernel_rfl) rfl fun hok => ?_
  simp only [r170, initEnv_2]
  (try (simp (disch := first | omega | (simp <;> omega) | fail) only [push_cast, ↓reduceIte, Nat.reduceEqDiff, Nat.reduceAdd, Nat.reduceMul, Nat.reduceSub, Nat.reduceLT, Int.reduceToNat]))
  refine (c_impl_Hyper_degrees_o n o gone hg hE hn hl he hcb).go fun x t g1 ht hext how => ?_
  subst ht
  obtain ⟨bd, rfl, hbd, hcd⟩ := ow_intsP how
  have hln : (degL n (lIS o) gone).length = n := by simp [degL]
  rw [hln]
  have hl1 := hext.len
  simp only [List.length_append, List.length_cons, List.length_nil] at hl1 hbd
  have hbd1 := hbd.1
  have hc0 : g1.cells h.length = some [] := hext.cells (by rw [cells_h0]; rfl)
  (try (simp (disch := first | omega | (simp <;> omega) | fail) only [push_cast, ↓reduceIte, Nat.reduceEqDiff, Nat.reduceAdd, Nat.reduceMul, Nat.reduceSub, Nat.reduceLT, Int.reduceToNat]))
  refine T_for n (fun i e g => ∃ v B, Pins e [(5, v), (11, .sl bd 0 1 n n), (12, .int .i64 n), (13, .int .i64 i)] ∧ S1 g 1 v (singTo n (lIS o) gone i).length ((nI (singTo n (lIS o) gone i)).map (.int .i64)) B ∧ (∀ k ∈ B, h.length ≤ k ∧ k ≠ bd) ∧ v ≠ .nils ∧ g.cells bd = some ((degL n (lIS o) gone).map (.int .i64))) ?_ ?_
  · refine ⟨.sl h.length 0 1 0 0, [h.length], ?_, ⟨rfl, .inr ⟨h.length, rfl, rfl, hc0⟩⟩, by simp; omega, by simp, hcd⟩
    (try (simp (disch := first | omega | (simp <;> omega) | fail) only [push_cast, ↓reduceIte, Nat.reduceEqDiff, Nat.reduceAdd, Nat.reduceMul, Nat.reduceSub, Nat.reduceLT, Int.reduceToNat]))
    all_goals (try rfl)
    all_goals (try simp)
  rintro i e g hi ⟨v, B, hp, hS, hB, hv, hcd⟩
  refine T_pins hp fun e => ?_
  (try (simp (disch := first | omega | (simp <;> omega) | fail) only [push_cast, ↓reduceIte, Nat.reduceEqDiff, Nat.reduceAdd, Nat.reduceMul, Nat.reduceSub, Nat.reduceLT, Int.reduceToNat]))
  first | refine goC_split (fun hc => ?_) (fun hc => ?_) | refine cnd_split (fun hc => ?_) (fun hc => ?_)
  · (try (simp only [decide_eq_true_eq, decide_eq_false_iff_not, Bool.not_eq_true', Bool.not_eq_false', Bool.and_eq_true, Bool.or_eq_true, Int.not_lt, Int.not_le] at hc)); (try (simp (disch := first | omega | (simp <;> omega) | fail) only [push_cast, ↓reduceIte, Nat.reduceEqDiff, Nat.reduceAdd, Nat.reduceMul, Nat.reduceSub, Nat.reduceLT, Int.reduceToNat]))
    have hi2 : i < n := by omega
    have hia : iaddrA 1 (.sl bd 0 1 n n) (.int .i64 i) = some (.adr bd i) := by
      rw [iaddrA_sl (by omega) (by omega)]
      simp
    have hget : ((degL n (lIS o) gone).map (AV.int .i64))[i]? = some (.int .i64 ((cnt (lIS o) gone (lIS o).length (i : Int) : Nat) : Int)) := by simp [degL, hi2]
    have hsc := singTo_succ (n := n) (E := lIS o) (gone := gone) (i := i)
    have hll := singTo_len (n := n) (E := lIS o) (gone := gone) (i := i)
    by_cases h1 : cnt (lIS o) gone (lIS o).length (i : Int) = 1
    · rw [if_pos h1] at hsc
      have h1i : ((cnt (lIS o) gone (lIS o).length (i : Int) : Nat) : Int) = 1 := by omega
      rw [h1i] at hget
      (try (simp (disch := first | omega | (simp <;> omega) | fail) only [push_cast, ↓reduceIte, Nat.reduceEqDiff, Nat.reduceAdd, Nat.reduceMul, Nat.reduceSub, Nat.reduceLT, Int.reduceToNat, hia, hcd, hget]))
      refine (hS.frame (h' := g ++ _) fun k hk => List.getElem?_append_left (hS.lt k hk)).app0 (new := [.int .i64 i]) (k := 1) (by_ := 8) (fun k hk => Or.inr (hB k hk).1) rfl (by omega) fun u2 g2 B2 a1 a2 a3 a4 a5 => ?_
      simp only [List.length_append, List.length_cons, List.length_nil] at a2 a3 a4
      have hbl := cells_lt hcd
      have hS2 : S1 g2 1 u2 (singTo n (lIS o) gone (i + 1)).length ((nI (singTo n (lIS o) gone (i + 1))).map (.int .i64)) B2 := by
        rw [hsc]
        simpa [nI] using a1
      have hcd2 : g2.cells bd = some ((degL n (lIS o) gone).map (.int .i64)) := cells_keep ((a3 bd (by omega) fun h5 => (hB bd h5).2 rfl).trans (List.getElem?_append_left hbl)) hcd
      have hB2 : ∀ k ∈ B2, h.length ≤ k ∧ k ≠ bd := fun k hk => by
        rcases a4 k hk with h5 | h5
        · exact hB k h5
        · exact ⟨by omega, by omega⟩
      have hn2 : u2 ≠ .nils := a5 hv
      (try (simp (disch := first | omega | (simp <;> omega) | fail) only [push_cast, ↓reduceIte, Nat.reduceEqDiff, Nat.reduceAdd, Nat.reduceMul, Nat.reduceSub, Nat.reduceLT, Int.reduceToNat]))
      all_goals (try exact ⟨_, _, rfl, hS2, hB2, hn2, hcd2⟩)
    · rw [if_neg h1] at hsc
      rw [← hsc] at hS
      have h1i : ¬ ((cnt (lIS o) gone (lIS o).length (i : Int) : Nat) : Int) = 1 := by omega
      (try (simp (disch := first | omega | (simp <;> omega) | fail) only [push_cast, ↓reduceIte, Nat.reduceEqDiff, Nat.reduceAdd, Nat.reduceMul, Nat.reduceSub, Nat.reduceLT, Int.reduceToNat, hia, hcd, hget, h1i]))
      all_goals (try exact ⟨_, _, rfl, hS, hB, hv, hcd⟩)
      all_goals (try exact ⟨_, _, rfl, hS, hB, hv⟩)
  · (try (simp only [decide_eq_true_eq, decide_eq_false_iff_not, Bool.not_eq_true', Bool.not_eq_false', Bool.and_eq_true, Bool.or_eq_true, Int.not_lt, Int.not_le] at hc)); (try (simp (disch := first | omega | (simp <;> omega) | fail) only [push_cast, ↓reduceIte, Nat.reduceEqDiff, Nat.reduceAdd, Nat.reduceMul, Nat.reduceSub, Nat.reduceLT, Int.reduceToNat]))
    have hie : i = n := by omega
    subst hie
    have hfin := hS.ow (f := AV.int .i64) (fun _ => rfl) (n0 := h.length) (fun k hk => (hB k hk).1) hv
    have hnl : (singTo i (lIS o) gone i).length = (nI (singTo i (lIS o) gone i)).length := by simp [nI]
    rw [hnl] at hfin
    (try (simp (disch := first | omega | (simp <;> omega) | fail) only [push_cast, ↓reduceIte, Nat.reduceEqDiff, Nat.reduceAdd, Nat.reduceMul, Nat.reduceSub, Nat.reduceLT, Int.reduceToNat]))
    all_goals (try exact ⟨_, hfin, rfl⟩)

theorem c_impl_Hyper_edgeAt (n p : Int) (o : Option (List (List Int))) (gone : List Bool) (hg : gone.length = (lIS o).length) (hl : (lIS o).length ≤ 1000) (hpos : 0 < cnt (lIS o) gone (lIS o).length p) :
    Fn Tryz.prog 172 [.rad [.int .i64 n, eIS o] 0, eO (some gone), .int .i64 p] (· = .int .i64 (edgeOf (lIS o) gone p)) := by
  refine Fn.of free_int fun h => ?_
  refine enter (by kernel_rfl) e172 (by kernel_rfl) rfl fun hok => ?_
  simp only [r172, initEnv_3]
  obtain ⟨s1, s2, s3, s4⟩ := edgeOf_spec hpos
  obtain ⟨k, hk⟩ : ∃ k, k = edgeOf (lIS o) gone p := ⟨_, rfl⟩
  rw [← hk] at s1 s2 s3 s4 ⊢
  (try (simp (disch := first | omega | (simp <;> omega) | fail) only [push_cast, ↓reduceIte, Nat.reduceEqDiff, Nat.reduceAdd, Nat.reduceMul, Nat.reduceSub, Nat.reduceLT, Int.reduceToNat]))
  refine T_for k (fun i e h' => Pins e [(0, .rad [.int .i64 n, eIS o] 0), (1, eO (some gone)), (2, .int .i64 p), (7, .int .i64 i)] ∧ h' = h) ?_ ?_
  · (try (simp (disch := first | omega | (simp <;> omega) | fail) only [push_cast, ↓reduceIte, Nat.reduceEqDiff, Nat.reduceAdd, Nat.reduceMul, Nat.reduceSub, Nat.reduceLT, Int.reduceToNat]))
  rintro i e h' hi ⟨hp, rfl⟩
  refine T_pins hp fun e => ?_
  have hi2 : i < (lIS o).length := by omega
  have hget : (gone.map AV.bool)[i]? = some (.bool (gone.getD i false)) := get_O (by omega)
  have hia : iaddrA 1 (eO (some gone)) (.int .i64 i) = some (.rad (gone.map AV.bool) i) := (iaddrA_ro (by omega) (by omega)).trans (by simp)
  cases hgi : gone.getD i false
  · rw [hgi] at hget
    (try (simp (disch := first | omega | (simp <;> omega) | fail) only [push_cast, ↓reduceIte, Nat.reduceEqDiff, Nat.reduceAdd, Nat.reduceMul, Nat.reduceSub, Nat.reduceLT, Int.reduceToNat, hia, hget]))
    refine (c_slices_Contains_int (some ((lIS o).getD i [])) p).call ?_
    show _
    by_cases hik : i = k
    · subst hik
      have hm : decide (p ∈ lI (some ((lIS o).getD i []))) = true := decide_eq_true s3
      rw [hm]
      (try (simp (disch := first | omega | (simp <;> omega) | fail) only [push_cast, ↓reduceIte, Nat.reduceEqDiff, Nat.reduceAdd, Nat.reduceMul, Nat.reduceSub, Nat.reduceLT, Int.reduceToNat]))
    · have hm : decide (p ∈ lI (some ((lIS o).getD i []))) = false := by
        refine decide_eq_false ?_
        rcases s4 i (by omega) with h5 | h5
        · rw [hgi] at h5
          cases h5
        · exact h5
      rw [hm]
      (try (simp (disch := first | omega | (simp <;> omega) | fail) only [push_cast, ↓reduceIte, Nat.reduceEqDiff, Nat.reduceAdd, Nat.reduceMul, Nat.reduceSub, Nat.reduceLT, Int.reduceToNat]))
  · have hik : i ≠ k := fun h5 => by
      rw [h5, s2] at hgi
      cases hgi
    rw [hgi] at hget
    (try (simp (disch := first | omega | (simp <;> omega) | fail) only [push_cast, ↓reduceIte, Nat.reduceEqDiff, Nat.reduceAdd, Nat.reduceMul, Nat.reduceSub, Nat.reduceLT, Int.reduceToNat, hia, hget]))

theorem cnt_le {E : List (List Int)} {gone : List Bool} {p : Int} (he : ∀ e ∈ E, e.length ≤ 1000) : ∀ i, cnt E gone i p ≤ 1000 * min i E.length
  | 0 => by simp [cnt]
  | i + 1 => by
    have ih := cnt_le (gone := gone) (p := p) he i
    simp only [cnt]
    have hc : (if gone.getD i false then 0 else (E.getD i []).count p) ≤ 1000 * (min (i + 1) E.length - min i E.length) := by
      by_cases hi : i < E.length
      · have h1 := Nat.le_trans (List.count_le_length (a := p) (l := E.getD i [])) (he _ (getD_mem hi))
        have h2 : min (i + 1) E.length - min i E.length = 1 := by omega
        rw [h2]
        split <;> omega
      · have h1 : E.getD i [] = [] := by
          rw [List.getD_eq_getElem?_getD, List.getElem?_eq_none (by omega)]
          rfl
        rw [h1]
        split <;> simp
    have : min i E.length ≤ min (i + 1) E.length := by omega
    omega
def cSt (s : Nat × Nat) : List AV := [.int .i64 s.1, .int .i64 s.2]
def eSt (l : List (Nat × Nat)) : AV := .ro 2 (l.flatMap cSt) l.length
/-- Peeling: the least single place each time. -/
def peelF (n : Nat) (E : List (List Int)) : Nat → List Bool → List (Nat × Nat) → List (Nat × Nat) × List Bool
  | 0, gone, st => (st, gone)
  | k + 1, gone, st => match sing n E gone with
    | [] => (st, gone)
    | p :: _ => peelF n E k (gone.set (edgeOf E gone (p : Int)) true) (st ++ [(edgeOf E gone (p : Int), p)])
theorem peelF_end {n : Nat} {E : List (List Int)} {gone : List Bool} {st : List (Nat × Nat)} (h : sing n E gone = []) : ∀ k, peelF n E k gone st = (st, gone)
  | 0 => rfl
  | k + 1 => by simp only [peelF, h]
theorem peelF_next {n : Nat} {E : List (List Int)} {gone : List Bool} {st : List (Nat × Nat)} {p : Nat} {ps : List Nat} (h : sing n E gone = p :: ps) {k : Nat} : peelF n E (k + 1) gone st = peelF n E k (gone.set (edgeOf E gone (p : Int)) true) (st ++ [(edgeOf E gone (p : Int), p)]) := by simp only [peelF, h]
def peelV (n : Nat) (E : List (List Int)) : List (Nat × Nat) × List Bool := peelF n E E.length (List.replicate E.length false) []
theorem sing_mem {n : Nat} {E : List (List Int)} {gone : List Bool} {p : Nat} (h : p ∈ sing n E gone) : p < n ∧ cnt E gone E.length (p : Int) = 1 := by
  unfold sing at h
  rw [List.mem_filter, List.mem_range, decide_eq_true_eq] at h
  exact h
theorem count_set {l : List Bool} : ∀ {i : Nat}, i < l.length → l.getD i false = false → (l.set i true).count true = l.count true + 1 := by
  induction l with
  | nil => intro i hi; simp at hi
  | cons b l ih =>
    intro i hi hf
    cases i with
    | zero =>
      have hb : b = false := hf
      subst hb
      simp
    | succ i =>
      have := ih (i := i) (by simpa using hi) (by simpa using hf)
      simp only [List.set_cons_succ, List.count_cons, this]
      omega
theorem count_all {l : List Bool} (h : l.count true = l.length) {k : Nat} (hk : k < l.length) : l.getD k false = true := by
  have := List.count_eq_length.1 h (l.getD k false) (getD_mem hk)
  exact this.symm
theorem ow_steps {h : H} {v : AV} {st : List (Nat × Nat)} {B : List Nat} {n0 : Nat} (hS : S1 h 2 v st.length (st.flatMap cSt) B) (hB : ∀ k ∈ B, n0 ≤ k) (hv : v ≠ .nils) : Ow h [v] [eSt st] fun c => n0 ≤ c := by
  rcases hS.2 with ⟨rfl, _, _⟩ | ⟨b, rfl, rfl, hc⟩
  · exact absurd rfl hv
  · have hat : ∀ x ∈ st.flatMap cSt, M.atom x = true := fun x hx => by
      obtain ⟨s, _, hs⟩ := List.mem_flatMap.1 hx
      simp only [cSt, List.mem_cons, List.not_mem_nil, or_false] at hs
      rcases hs with rfl | rfl <;> rfl
    exact .sl (F := fun _ => False) (F' := fun _ => False) hc hS.1 (all_one_of hat) (ow_self hat) .nil (hB b (by simp)) (fun c hc => hc.elim) (fun c hc => hc.elim)
theorem free_rad {cs : List AV} {off : Nat} (hc : ∀ c ∈ cs, Free c) : Free (.rad cs off) := fun S w μ μ' v h => by
  cases h with
  | rad h1 h2 h3 => exact .rad h1 h2 (fun i x hx => hc x (List.mem_of_getElem? hx) _ _ _ _ _ (h3 i x hx))

set_option maxHeartbeats 2000000 in
theorem c_impl_Hyper_peel_o (n : Nat) (o : Option (List (List Int))) (hE : ∀ e ∈ lIS o, ∀ p ∈ e, 0 ≤ p ∧ p < (n : Int)) (hn : n ≤ 1000) (hl : (lIS o).length ≤ 1000) (he : ∀ e ∈ lIS o, e.length ≤ 1000) :
    FnO Tryz.prog 140 [.rad [.int .i64 n, eIS o] 0] (· = .tup [eSt (peelV n (lIS o)).1, eI (some (nI (leftTo (peelV n (lIS o)).2 (lIS o).length)))]) := by
  intro h
  refine enter (by kernel_rfl) e140 (by kernel_rfl) rfl fun hok => ?_
  simp only [r140, initEnv_1]
  have hfr : Free (.rad [.int .i64 n, eIS o] 0) := free_rad (free_cons_ free_int (free_cons_ free_eIS free_nil_))
  have hcb : ∀ gone i p, cnt (lIS o) gone i p ≤ 1000000 := fun gone i p => by
    have h1 := cnt_le (gone := gone) (p := p) he i
    have h2 : min i (lIS o).length ≤ 1000 := by omega
    omega
  (try (simp (disch := first | omega | (simp <;> omega) | fail) only [push_cast, ↓reduceIte, Nat.reduceEqDiff, Nat.reduceAdd, Nat.reduceMul, Nat.reduceSub, Nat.reduceLT, Int.reduceToNat]))
  refine (c_impl_Hyper_none_own n o _ hl).mono (fun x g1 hx => ?_) (fun _ _ h => h.elim)
  obtain ⟨bg, rfl, t1, ⟨p, hp1⟩, t3⟩ := hx
  simp only [List.length_append, List.length_cons, List.length_nil] at t1
  have hc0 : g1.cells h.length = some [] := by
    rw [hp1]
    exact cells_app (by rw [cells_h0]; rfl)
  have hl1 : h.length < g1.length := cells_lt hc0
  clear hp1
  (try (simp (disch := first | omega | (simp <;> omega) | fail) only [push_cast, ↓reduceIte, Nat.reduceEqDiff, Nat.reduceAdd, Nat.reduceMul, Nat.reduceSub, Nat.reduceLT, Int.reduceToNat]))
  refine T_for (lIS o).length (fun i e g => ∃ v B st gone, Pins e [(0, .rad [.int .i64 n, eIS o] 0), (4, v), (5, .sl bg 0 1 (lIS o).length (lIS o).length)] ∧ S1 g 2 v st.length (st.flatMap cSt) B ∧ (∀ k ∈ B, h.length ≤ k ∧ k ≠ bg) ∧ v ≠ .nils ∧ h.length ≤ bg ∧ g.cells bg = some (gone.map .bool) ∧ gone.length = (lIS o).length ∧ gone.count true = i ∧ st.length = i ∧ peelF n (lIS o) ((lIS o).length - i) gone st = peelV n (lIS o)) ?_ ?_
  · refine ⟨.sl h.length 0 2 0 0, [h.length], [], List.replicate (lIS o).length false, ?_, ⟨rfl, .inr ⟨h.length, rfl, rfl, hc0⟩⟩, by simp; omega, by simp, by omega, t3, by simp, ?_, rfl, rfl⟩
    · (try (simp (disch := first | omega | (simp <;> omega) | fail) only [push_cast, ↓reduceIte, Nat.reduceEqDiff, Nat.reduceAdd, Nat.reduceMul, Nat.reduceSub, Nat.reduceLT, Int.reduceToNat]))
      all_goals (try rfl)
    · rw [List.count_replicate]
      rfl
  rintro i e g hi ⟨v, B, st, gone, hp, hS, hB, hv, hbg, hcg, hgl, hgc, hsl, hpf⟩
  refine T_pins hp fun e => ?_
  have hbl := cells_lt hcg
  have hvg : ∀ g' : H, g'.cells bg = some (gone.map .bool) → Vw g' 0 (.sl bg 0 1 (lIS o).length (lIS o).length) (eO (some gone)) := fun g' hc => by
    have := vw_all (h := g') (n := 0) (b := bg) (sz := 1) (len := gone.length) (kc := gone.length) (Nat.zero_le _) hc (by simp) (one_map fun _ => rfl) (free_map_ fun _ => free_bool)
    rw [hgl] at this
    show Vw g' 0 _ (.ro 1 (gone.map .bool) gone.length)
    rw [hgl]
    exact this
  (try (simp (disch := first | omega | (simp <;> omega) | fail) only [push_cast, ↓reduceIte, Nat.reduceEqDiff, Nat.reduceAdd, Nat.reduceMul, Nat.reduceSub, Nat.reduceLT, Int.reduceToNat]))
  refine (c_impl_Hyper_singles_o n o gone hgl hE hn hl he (hcb gone)).goL (.free hfr (.cons (hvg g hcg) .nil)) fun x t g2 ht hext how => ?_
  subst ht
  obtain ⟨bx, rfl, hbx, hcx⟩ := ow_intsP how
  have hcg2 := hext.cells hcg
  have hl2 := hext.len
  have hbx1 := hbx.1
  have hbl2 := cells_lt hcx
  have hnl : (nI (sing n (lIS o) gone)).length = (sing n (lIS o) gone).length := by simp [nI]
  rw [hnl]
  have hS2 := hS.frame (h' := g2) fun k hk => hext.at_ (hS.lt k hk)
  cases hsg : sing n (lIS o) gone with
  | nil =>
    rw [hsg] at hcx
    have hres := peelF_end (st := st) hsg ((lIS o).length - i)
    rw [hpf] at hres
    (try (simp (disch := first | omega | (simp <;> omega) | fail) only [push_cast, ↓reduceIte, Nat.reduceEqDiff, Nat.reduceAdd, Nat.reduceMul, Nat.reduceSub, Nat.reduceLT, Int.reduceToNat]))
    refine (c_impl_left_o gone (by omega)).goL (.cons (hvg g2 hcg2) .nil) fun x t g3 ht hext3 how3 => ?_
    subst ht
    have hS3 := hS2.frame (h' := g3) fun k hk => hext3.at_ (hS2.lt k hk)
    have hl3 := hext3.len
    have hfin : Ow g3 [.tup [v, x]] [.tup [eSt (peelV n (lIS o)).1, eI (some (nI (leftTo (peelV n (lIS o)).2 (lIS o).length)))]] fun c => h.length ≤ c := by
      rw [hres]
      have h1 := ow_steps (n0 := h.length) hS3 (fun k hk => (hB k hk).1) hv
      have h1' : Ow g3 [v] [eSt st] fun c => h.length ≤ c ∧ c < g2.length := by
        rcases hS3.2 with ⟨rfl, _, _⟩ | ⟨b, rfl, hBb, hcb3⟩
        · exact absurd rfl hv
        · have hat : ∀ x ∈ st.flatMap cSt, M.atom x = true := fun x hx => by
            obtain ⟨s, _, hs⟩ := List.mem_flatMap.1 hx
            simp only [cSt, List.mem_cons, List.not_mem_nil, or_false] at hs
            rcases hs with rfl | rfl <;> rfl
          have hb1 := (hB b (by rw [hBb]; simp)).1
          have hb2 := hS2.lt b (by rw [hBb]; simp)
          exact .sl (F := fun _ => False) (F' := fun _ => False) hcb3 hS3.1 (all_one_of hat) (ow_self hat) .nil ⟨hb1, hb2⟩ (fun c hc => hc.elim) (fun c hc => hc.elim)
      have h2 : Ow g3 [x] [eI (some (nI (leftTo gone (lIS o).length)))] (Seg g2.length g3) := by rw [← hgl]; exact how3
      exact Ow.tupOf (h1'.two h2 (fun c hc => hc.1) (fun c hc => ⟨by have := hc.1; omega, fun h5 => by have := hc.1; omega⟩))
    (try (simp (disch := first | omega | (simp <;> omega) | fail) only [push_cast, ↓reduceIte, Nat.reduceEqDiff, Nat.reduceAdd, Nat.reduceMul, Nat.reduceSub, Nat.reduceLT, Int.reduceToNat]))
    all_goals (try exact ⟨_, hfin, rfl⟩)
  | cons q qs =>
    rw [hsg] at hcx
    have hqm := sing_mem (n := n) (E := lIS o) (gone := gone) (p := q) (by rw [hsg]; simp)
    have hpos : 0 < cnt (lIS o) gone (lIS o).length (q : Int) := by omega
    obtain ⟨s1, s2, s3, s4⟩ := edgeOf_spec hpos
    obtain ⟨k, hk⟩ : ∃ k, k = edgeOf (lIS o) gone (q : Int) := ⟨_, rfl⟩
    have hfull : i < (lIS o).length := by
      rcases Nat.lt_or_ge i (lIS o).length with h5 | h5
      · exact h5
      · have h6 := count_all (l := gone) (by omega) (k := edgeOf (lIS o) gone (q : Int)) (by omega)
        rw [s2] at h6
        cases h6
    have hnx := peelF_next (st := st) hsg (k := (lIS o).length - (i + 1))
    rw [show (lIS o).length - (i + 1) + 1 = (lIS o).length - i by omega, hpf] at hnx
    have hq0 : ((nI (q :: qs)).map (AV.int .i64))[0]? = some (.int .i64 (q : Int)) := rfl
    have hiq : iaddrA 1 (.sl bx 0 1 (q :: qs).length (q :: qs).length) (.int .i64 0) = some (.adr bx 0) := by
      rw [iaddrA_sl (by omega) (by simp)]
      rfl
    have hge := c_impl_Hyper_edgeAt n (q : Int) o gone hgl hl hpos
    rw [← hk] at hge s1 s2 s3 s4 hnx
    have hlq : ¬ (((q :: qs).length : Nat) : Int) = 0 := by simp; omega
    (try (simp (disch := first | omega | (simp <;> omega) | fail) only [push_cast, ↓reduceIte, Nat.reduceEqDiff, Nat.reduceAdd, Nat.reduceMul, Nat.reduceSub, Nat.reduceLT, Int.reduceToNat, hlq, hiq, hcx, hq0]))
    refine hge.lendL (.free hfr (.cons (hvg g2 hcg2) (.free free_int .nil))) own_int ?_
    have hik : iaddrA 1 (.sl bg 0 1 (lIS o).length (lIS o).length) (.int .i64 (k : Int)) = some (.adr bg k) := by
      rw [iaddrA_sl (by omega) (by omega)]
      simp
    have hov : over (gone.map AV.bool) k [.bool true] = (gone.set k true).map .bool := by rw [over_set (by simp; omega), List.map_set]
    have hll : (gone.map AV.bool).length = gone.length := by simp
    have hpm : (h.length ≤ bg) = True := by simp; omega
    have hwk : ∀ c, c ≠ bg → (wr g2 bg ((gone.set k true).map AV.bool))[c]? = g2[c]? := fun c hc => by
      unfold wr
      rw [List.getElem?_set_ne (Ne.symm hc)]
    have hcx2 : H.cells (wr g2 bg ((gone.set k true).map .bool)) bx = some ((nI (q :: qs)).map (.int .i64)) := cells_keep (hwk bx (by omega)) hcx
    have hcg3 : H.cells (wr g2 bg ((gone.set k true).map .bool)) bg = some ((gone.set k true).map .bool) := cells_wr2 (by omega)
    have hS3 := hS2.frame (h' := wr g2 bg ((gone.set k true).map .bool)) fun c hc => hwk c (hB c hc).2
    have hl3 : (wr g2 bg ((gone.set k true).map AV.bool)).length = g2.length := by simp [wr]
    (try (simp (disch := first | omega | (simp <;> omega) | fail) only [push_cast, ↓reduceIte, Nat.reduceEqDiff, Nat.reduceAdd, Nat.reduceMul, Nat.reduceSub, Nat.reduceLT, Int.reduceToNat, hcg2, hik, hov, hll, hpm, hiq, hcx2, hq0]))
    generalize wr g2 bg ((gone.set k true).map AV.bool) = g3 at *
    have hfa : fillA (rows [AV.int .i64 0, .int .i64 0] 1) [(0, 2, AV.agg [.int .i64 (k : Int), .int .i64 (q : Int)])] = some [.int .i64 (k : Int), .int .i64 (q : Int)] := rfl
    have hfb : fillA [AV.int .i64 0, .int .i64 0] [(0, 1, .int .i64 (k : Int)), (1, 1, .int .i64 (q : Int))] = some [.int .i64 (k : Int), .int .i64 (q : Int)] := rfl
    (try (simp (disch := first | omega | (simp <;> omega) | fail) only [push_cast, ↓reduceIte, Nat.reduceEqDiff, Nat.reduceAdd, Nat.reduceMul, Nat.reduceSub, Nat.reduceLT, Int.reduceToNat, hfa, hfb, hiq, hcx2, hq0]))
    refine (hS3.frame (h' := g3 ++ _) fun c hc => List.getElem?_append_left (hS3.lt c hc)).app0 (new := [.int .i64 (k : Int), .int .i64 (q : Int)]) (k := 1) (by_ := 16) (fun c hc => Or.inr (hB c hc).1) rfl (by omega) fun u2 g4 B2 a1 a2 a3 a4 a5 => ?_
    simp only [List.length_append, List.length_cons, List.length_nil] at a2 a3 a4
    have hS4 : S1 g4 2 u2 (st ++ [(k, q)]).length ((st ++ [(k, q)]).flatMap cSt) B2 := by
      have : (st ++ [(k, q)]).flatMap cSt = st.flatMap cSt ++ [.int .i64 (k : Int), .int .i64 (q : Int)] := by simp [cSt]
      rw [this, List.length_append]
      exact a1
    have hcg4 : g4.cells bg = some ((gone.set k true).map .bool) := cells_keep ((a3 bg (by omega) fun h5 => (hB bg h5).2 rfl).trans (List.getElem?_append_left (by omega))) hcg3
    have hB4 : ∀ c ∈ B2, h.length ≤ c ∧ c ≠ bg := fun c hc => by
      rcases a4 c hc with h5 | h5
      · exact hB c h5
      · exact ⟨by omega, by omega⟩
    have hcnt := count_set (l := gone) (i := k) (by omega) s2
    (try (simp (disch := first | omega | (simp <;> omega) | fail) only [push_cast, ↓reduceIte, Nat.reduceEqDiff, Nat.reduceAdd, Nat.reduceMul, Nat.reduceSub, Nat.reduceLT, Int.reduceToNat]))
    all_goals (try exact ⟨_, _, _, _, rfl, hS4, hB4, a5 hv, hcg4, by simp [hgl], by rw [hcnt]; omega, by simp; omega, hnx.symm⟩)

end Go.Proofs.YtjfgmimgmapeeaaGreat.M
