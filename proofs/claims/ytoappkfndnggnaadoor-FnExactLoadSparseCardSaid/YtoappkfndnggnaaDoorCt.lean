/-
  What the functions return.
-/
import Derived.Test.YtoappkfndnggnaaDoorFt
import Derived.Test.YtoappkfndnggnaaDoorCs
namespace Go.Proofs.YtoappkfndnggnaaDoor.M
open Go Go.RowKit
set_option linter.unusedVariables false
set_option linter.unusedSimpArgs false
set_option maxRecDepth 4000

def BL (n : Nat) (g : Nat → Bool) : List Bool := (List.range n).map g
theorem BL_len {n : Nat} {g : Nat → Bool} : (BL n g).length = n := by simp [BL]
theorem BL_get {n p : Nat} {g : Nat → Bool} (hp : p < n) : (BL n g).getD p false = g p := by simp [BL, hp]
theorem BL_set {n q : Nat} {g : Nat → Bool} {x : Bool} (f : Nat → Bool) (hf : ∀ p, p < n → f p = if p = q then x else g p) : ((BL n g).map AV.bool).set q (.bool x) = (BL n f).map .bool := by
  refine List.ext_getElem? fun p => ?_
  rw [List.getElem?_set]
  simp only [BL, List.map_map, List.getElem?_map, List.length_map, List.length_range]
  by_cases hp : p < n
  · rw [List.getElem?_range hp]
    simp only [Option.map_some, Function.comp]
    rw [hf p hp]
    by_cases hq : q = p
    · subst hq
      simp [hp]
    · rw [if_neg hq, if_neg (Ne.symm hq)]
  · have h1 : (List.range n)[p]? = none := by simp; omega
    rw [h1]
    by_cases hq : q = p
    · subst hq
      simp [hp]
    · rw [if_neg hq]
      rfl
theorem BL_rep {n : Nat} {g : Nat → Bool} (hg : ∀ p, g p = false) : List.replicate n (AV.bool false) = (BL n g).map .bool := by
  unfold BL
  rw [List.map_map]
  refine List.ext_getElem? fun p => ?_
  rw [List.getElem?_replicate, List.getElem?_map]
  by_cases hp : p < n
  · rw [if_pos hp, List.getElem?_range hp]
    simp [hg]
  · rw [if_neg hp]
    have h1 : (List.range n)[p]? = none := by simp; omega
    rw [h1]
    rfl

theorem c_spec_biPut (n a w v b : Nat) (g : Nat → Bool) (h : H) (hb : h.cells b = some ((BL n fun p => decide (p < a) && g p).map .bool)) (hv : v < 65536) (hw : w ≤ 16) (hg : ∀ j, j < w → v.testBit j = g (a + j)) (ha : a + w ≤ n) (hn : n ≤ 1000000) :
    Call Tryd.prog 100 [.sl b 0 1 n n, .int .i64 a, .int .i64 w, .int .i64 v] h (fun b' => b' = b) (fun x h' => h'.length = h.length ∧ (∀ c, c ≠ b → h'[c]? = h[c]?) ∧ h'.cells b = some ((BL n fun p => decide (p < a + w) && g p).map .bool)) := by
  refine enter (by kernel_rfl) e100 (by kernel_rfl) rfl fun hok => ?_
  simp only [r100, initEnv_4]
  (try (simp (disch := first | omega | (simp <;> omega) | fail) only [push_cast, ↓reduceIte, Nat.reduceEqDiff, Nat.reduceAdd, Nat.reduceMul, Nat.reduceSub, Nat.reduceLT, Int.reduceToNat]))
  refine T_for w (fun i e h' => Pins e [(0, .sl b 0 1 n n), (1, .int .i64 a), (2, .int .i64 w), (3, .int .i64 v), (8, .int .i64 i)] ∧ (h'.length = h.length ∧ (∀ c, c ≠ b → h'[c]? = h[c]?)) ∧ h'.cells b = some ((BL n fun p => decide (p < a + i) && g p).map .bool)) ?_ ?_
  · (try (simp (disch := first | omega | (simp <;> omega) | fail) only [push_cast, ↓reduceIte, Nat.reduceEqDiff, Nat.reduceAdd, Nat.reduceMul, Nat.reduceSub, Nat.reduceLT, Int.reduceToNat]))
    all_goals (try exact hb)
    all_goals (try exact ⟨fun _ _ => trivial, hb⟩)
  rintro i e h' hi ⟨hp, ⟨q1, q2⟩, q3⟩
  refine T_pins hp fun e => ?_
  (try (simp (disch := first | omega | (simp <;> omega) | fail) only [push_cast, ↓reduceIte, Nat.reduceEqDiff, Nat.reduceAdd, Nat.reduceMul, Nat.reduceSub, Nat.reduceLT, Int.reduceToNat]))
  first | refine goC_split (fun hc => ?_) (fun hc => ?_) | refine cnd_split (fun hc => ?_) (fun hc => ?_)
  · (try (simp only [decide_eq_true_eq, decide_eq_false_iff_not, Bool.not_eq_true', Bool.not_eq_false', Bool.and_eq_true, Bool.or_eq_true, Int.not_lt, Int.not_le] at hc)); (try (simp (disch := first | omega | (simp <;> omega) | fail) only [push_cast, ↓reduceIte, Nat.reduceEqDiff, Nat.reduceAdd, Nat.reduceMul, Nat.reduceSub, Nat.reduceLT, Int.reduceToNat]))
    have hi2 : i < w := by omega
    have hab := at_bit (x := v) (j := i) hv (by omega)
    rw [hg i hi2] at hab
    have hbl := cells_lt q3
    have hst : ((BL n fun p => decide (p < a + i) && g p).map AV.bool).set (a + i) (.bool (g (a + i))) = (BL n fun p => decide (p < a + (i + 1)) && g p).map .bool := BL_set _ fun p hp => by
      by_cases hq : p = a + i
      · subst hq
        simp
      · rw [if_neg hq]
        congr 1
        rw [decide_eq_decide]
        omega
    have hlen : ((BL n fun p => decide (p < a + i) && g p).map AV.bool).length = n := by rw [List.length_map, BL_len]
    have hos : over ((BL n fun p => decide (p < a + i) && g p).map AV.bool) (a + i) [.bool (g (a + i))] = (BL n fun p => decide (p < a + (i + 1)) && g p).map .bool := by
      rw [over_set (by rw [hlen]; omega), hst]
    have hpm : (b = b) = True := by simp
    have hw1 : ∀ cs, H.cells (wr h' b cs) b = some cs := fun cs => cells_wr2 hbl
    have hw2 : ∀ cs, (∀ c, c ≠ b → (wr h' b cs)[c]? = h[c]?) := fun cs c hc => by
      unfold wr
      rw [List.getElem?_set_ne (Ne.symm hc)]
      exact q2 c hc
    have hw3 : ∀ cs, (wr h' b cs).length = h.length := fun cs => by simp [wr, q1]
    cases hgb : g (a + i)
    all_goals
      rw [hgb] at hab hos
      (try (simp (disch := first | omega | (simp <;> omega) | fail) only [push_cast, ↓reduceIte, Nat.reduceEqDiff, Nat.reduceAdd, Nat.reduceMul, Nat.reduceSub, Nat.reduceLT, Int.reduceToNat, hab, q3, hlen, hos, hpm]))
      all_goals (try exact ⟨⟨hw3 _, hw2 _⟩, hw1 _⟩)
      all_goals (try exact ⟨hw3 _, hw2 _, hw1 _⟩)
  · (try (simp only [decide_eq_true_eq, decide_eq_false_iff_not, Bool.not_eq_true', Bool.not_eq_false', Bool.and_eq_true, Bool.or_eq_true, Int.not_lt, Int.not_le] at hc)); (try (simp (disch := first | omega | (simp <;> omega) | fail) only [push_cast, ↓reduceIte, Nat.reduceEqDiff, Nat.reduceAdd, Nat.reduceMul, Nat.reduceSub, Nat.reduceLT, Int.reduceToNat]))
    have hie : i = w := by omega
    subst hie
    first | exact ⟨q1, q2, q3⟩ | exact ⟨⟨q1, q2⟩, q3⟩

theorem ow7b {h : H} {n l w a c : Int} {x1 x2 : AV} {w1 w2 : Option (List Int)} {n0 : Nat} {F1 F2 : Nat → Prop} (h1 : Ow h [x1] [eI w1] F1) (h2 : Ow h [x2] [eI w2] F2) (hF : ∀ c, F1 c → n0 ≤ c) (hF2 : ∀ c, F2 c → n0 ≤ c ∧ ¬ F1 c) :
    Ow h [.agg [.int .i64 n, .int .i64 l, .int .i64 w, .int .i64 a, x1, .int .i64 c, x2]] [eSp ⟨n, l, w, ⟨a, w1⟩, ⟨c, w2⟩⟩] fun c => n0 ≤ c :=
  Ow.aggOf (ts := cSp ⟨n, l, w, ⟨a, w1⟩, ⟨c, w2⟩⟩) (.atom rfl (.atom rfl (.atom rfl (.atom rfl (h1.cons (F' := F2) (.atom rfl h2) hF hF2)))))
theorem vw_bl {g : H} {b N n0 : Nat} {f : Nat → Bool} (hc : H.cells g b = some ((BL N f).map .bool)) (hb : n0 ≤ b) : Vw g n0 (.sl b 0 1 N N) (eO (some (BL N f))) := by
  have := vw_all (n := n0) (kc := N) (sz := 1) (len := N) hb hc (by rw [List.length_map, BL_len]; omega) (one_map fun _ => rfl) (free_map_ fun _ => free_bool)
  show Vw g n0 _ (.ro 1 ((BL N f).map .bool) (BL N f).length)
  rw [BL_len]
  exact this

theorem c_spec_spOf_o (L : List Nat) (lim : Nat) (o : Option (List Int)) (ho : lI o = natI L) (hL : L.length ≤ 60) (h1 : 1 ≤ lim) (hl : lim ≤ 100000) (hlt : ∀ i, i < L.length → L.getD i 0 < lim) : FnO Tryd.prog 63 [eI o, .int .i64 lim] (· = eSp (spV L lim)) := by
  intro h
  refine enter (by kernel_rfl) e63 (by kernel_rfl) rfl fun hok => ?_
  simp only [r63, initEnv_2]
  have hln : (lI o).length = L.length := by rw [ho, natI_len]
  have hw16 := wid_le (c := L.length) hl
  have hsl := hiS_le hL hl
  have hWF := c_spec_spWidth L.length lim hL hl
  obtain ⟨w, hwd⟩ : ∃ w, w = wid L.length lim := ⟨_, rfl⟩
  have hsv : spV L lim = ⟨L.length, lim, w, lowB L w, hiB L lim w⟩ := by rw [hwd]; rfl
  rw [← hwd] at hWF hw16 hsl
  obtain ⟨hs, hhs⟩ : ∃ hs, hs = hiS L.length lim w := ⟨_, rfl⟩
  rw [← hhs] at hsl
  have hsh : Int.fdiv ((lim : Int) - 1) (2 ^ (min w IntKind.i64.bits)) = (((lim - 1) / 2 ^ w : Nat) : Int) := by
    rw [← shrN (a := lim - 1) (b := w) (by omega)]
    congr 1
    omega
  obtain ⟨sq, hsq⟩ : ∃ sq, sq = (lim - 1) / 2 ^ w := ⟨_, rfl⟩
  rw [← hsq] at hsh
  have hhs2 : hs = L.length + sq + 1 := by rw [hhs, hsq]; rfl
  have hsi : (L.length : Int) + (sq : Int) + 1 = (hs : Int) := by omega
  have hlw : L.length * w ≤ 60 * 16 := Nat.mul_le_mul hL hw16
  have hmul : (L.length : Int) * (w : Int) = ((L.length * w : Nat) : Int) := by simp
  have hnw : ∀ i, i < L.length → i * w + w ≤ L.length * w := fun i hi => by
    have : (i + 1) * w ≤ L.length * w := Nat.mul_le_mul_right _ hi
    rw [Nat.add_mul, Nat.one_mul] at this
    omega
  obtain ⟨n, hn⟩ : ∃ n, n = L.length * w := ⟨_, rfl⟩
  rw [← hn] at hlw hmul hnw
  have hr1 : List.replicate n (AV.bool false) = (BL n fun p => decide (p < 0 * w) && lowG L w p).map .bool := BL_rep fun p => by simp
  have hr2 : List.replicate hs (AV.bool false) = (BL hs (hiG L w 0)).map .bool := BL_rep fun p => by simp [hiG]
  (try (simp (disch := first | omega | (simp <;> omega) | fail) only [push_cast, ↓reduceIte, Nat.reduceEqDiff, Nat.reduceAdd, Nat.reduceMul, Nat.reduceSub, Nat.reduceLT, Int.reduceToNat, hln]))
  refine hWF.call ?_
  (try (simp (disch := first | omega | (simp <;> omega) | fail) only [push_cast, ↓reduceIte, Nat.reduceEqDiff, Nat.reduceAdd, Nat.reduceMul, Nat.reduceSub, Nat.reduceLT, Int.reduceToNat, hln, hmul, hsh, hsi]))
  refine T_for L.length (fun i e h' => Pins e [(0, eI o), (1, .int .i64 lim), (4, .adr h.length 0), (5, .int .i64 w), (6, .sl (h.length + 1) 0 1 n n), (7, .sl (h.length + 2) 0 1 hs hs), (28, eI o), (29, .int .i64 L.length), (30, .int .i64 i)] ∧ H.cells h' h.length = some zero7 ∧ H.cells h' (h.length + 1) = some ((BL n fun p => decide (p < i * w) && lowG L w p).map .bool) ∧ H.cells h' (h.length + 2) = some ((BL hs (hiG L w i)).map .bool)) ?_ ?_
  · have hc0 : ∀ a b : Option AObj, H.cells (h ++ [some (.cells zero7), a, b]) h.length = some zero7 := fun a b => by rw [cells_h0]; rfl
    rw [← hr1, ← hr2]
    (try (simp (disch := first | omega | (simp <;> omega) | fail) only [push_cast, ↓reduceIte, Nat.reduceEqDiff, Nat.reduceAdd, Nat.reduceMul, Nat.reduceSub, Nat.reduceLT, Int.reduceToNat, hln]))
    all_goals (try exact ⟨by rw [cells_h0]; rfl, by rw [cells_hk]; simp [cellsO], by rw [cells_hk]; simp [cellsO]⟩)
    all_goals (try rfl)
  rintro i e h' hi ⟨hp, q1, q2, q3⟩
  refine T_pins hp fun e => ?_
  have lq1 := cells_lt q1
  have lq2 := cells_lt q2
  have lq3 := cells_lt q3
  (try (simp (disch := first | omega | (simp <;> omega) | fail) only [push_cast, ↓reduceIte, Nat.reduceEqDiff, Nat.reduceAdd, Nat.reduceMul, Nat.reduceSub, Nat.reduceLT, Int.reduceToNat]))
  first | refine goC_split (fun hc => ?_) (fun hc => ?_) | refine cnd_split (fun hc => ?_) (fun hc => ?_)
  · (try (simp only [decide_eq_true_eq, decide_eq_false_iff_not, Bool.not_eq_true', Bool.not_eq_false', Bool.and_eq_true, Bool.or_eq_true, Int.not_lt, Int.not_le] at hc)); (try (simp (disch := first | omega | (simp <;> omega) | fail) only [push_cast, ↓reduceIte, Nat.reduceEqDiff, Nat.reduceAdd, Nat.reduceMul, Nat.reduceSub, Nat.reduceLT, Int.reduceToNat]))
    have hi2 : i < L.length := by omega
    have hgi : (lI o).getD i 0 = ((L.getD i 0 : Nat) : Int) := by rw [ho, natI_get]
    have hni := hlt i hi2
    have hq := hi_lt (w := w) hi2 hni
    rw [← hhs] at hq
    have hpw : 2 ^ w ≤ 2 ^ 16 := Nat.pow_le_pow_right (by decide) hw16
    have hp0 : 1 ≤ 2 ^ w := Nat.pow_pos (by decide)
    have hsh1 : IntKind.i64.wrap (1 * 2 ^ (min w IntKind.i64.bits)) = ((2 ^ w : Nat) : Int) := by
      have := shlN (a := 1) (b := w) (by omega) (by omega)
      simpa using this
    have hshr := shrN (a := L.getD i 0) (b := w) (by omega)
    have hmi : (i : Int) * (w : Int) = ((i * w : Nat) : Int) := by simp
    have hiw := hnw i hi2
    have hsu : (i + 1) * w = i * w + w := by rw [Nat.add_mul, Nat.one_mul]
    have hmdl := Nat.mod_lt (L.getD i 0) (Nat.two_pow_pos w)
    have hgb : ∀ j, j < w → (L.getD i 0 % 2 ^ w).testBit j = lowG L w (i * w + j) := fun j hj => by
      rw [lowG_at hj, Nat.testBit_mod_two_pow]
      simp [hj]
    have hrem : ((L.getD i 0 : Nat) : Int) % ((2 ^ w : Nat) : Int) = ((L.getD i 0 % 2 ^ w : Nat) : Int) := by simp
    have hst : ((BL hs (hiG L w i)).map AV.bool).set (L.getD i 0 / 2 ^ w + i) (.bool true) = (BL hs (hiG L w (i + 1))).map .bool := BL_set _ fun p hp => by
      rw [hiG_succ]
      by_cases h5 : p = L.getD i 0 / 2 ^ w + i
      · subst h5
        simp
      · rw [if_neg h5, decide_eq_false (Ne.symm h5), Bool.or_false]
    have hlen3 : ((BL hs (hiG L w i)).map AV.bool).length = hs := by rw [List.length_map, BL_len]
    have hos : over ((BL hs (hiG L w i)).map AV.bool) (L.getD i 0 / 2 ^ w + i) [.bool true] = (BL hs (hiG L w (i + 1))).map .bool := by
      rw [over_set (by rw [hlen3]; omega), hst]
    obtain ⟨k, hk⟩ : ∃ k, k = L.getD i 0 := ⟨_, rfl⟩
    rw [← hk] at hgi hni hq hshr hmdl hgb hrem hst hos
    obtain ⟨P, hP⟩ : ∃ P, P = 2 ^ w := ⟨_, rfl⟩
    rw [← hP] at hpw hp0 hsh1 hshr hmdl hgb hrem hst hos hq
    obtain ⟨md, hmd⟩ : ∃ md, md = k % P := ⟨_, rfl⟩
    obtain ⟨dv, hdv⟩ : ∃ dv, dv = k / P := ⟨_, rfl⟩
    obtain ⟨iw, hiwd⟩ : ∃ iw, iw = i * w := ⟨_, rfl⟩
    rw [← hmd] at hmdl hgb hrem
    rw [← hdv] at hshr hst hos hq
    rw [← hiwd] at hmi hiw hsu hgb q2
    (try (simp (disch := first | omega | (simp <;> omega) | fail) only [push_cast, ↓reduceIte, Nat.reduceEqDiff, Nat.reduceAdd, Nat.reduceMul, Nat.reduceSub, Nat.reduceLT, Int.reduceToNat, hln, hgi, hmi, hsh1, hrem]))
    refine (c_spec_biPut n iw w md (h.length + 1) (lowG L w) _ q2 (by omega) hw16 hgb (by omega) (by omega)).mono (fun y h2 hy => ?_) (fun b' _ hb' => Or.inr (by omega))
    obtain ⟨y1, y2, y3⟩ := hy
    rw [← hsu] at y3
    have r1 := cells_keep (y2 _ (by omega)) q1
    have r3 := cells_keep (y2 _ (by omega)) q3
    have lr3 := cells_lt r3
    have hpm2 : (h.length ≤ h.length + 2) = True := by simp
    have hdi : (dv : Int) + (i : Int) = ((dv + i : Nat) : Int) := by omega
    have hwk : ∀ c cs, c ≠ h.length + 2 → (wr h2 (h.length + 2) cs)[c]? = h2[c]? := fun c cs hc => by
      unfold wr
      rw [List.getElem?_set_ne (Ne.symm hc)]
    have s1 : ∀ cs, H.cells (wr h2 (h.length + 2) cs) h.length = some zero7 := fun cs => cells_keep (hwk _ cs (by omega)) r1
    have s2 : ∀ cs, H.cells (wr h2 (h.length + 2) cs) (h.length + 1) = some ((BL n fun p => decide (p < (i + 1) * w) && lowG L w p).map .bool) := fun cs => cells_keep (hwk _ cs (by omega)) y3
    have s3 : ∀ cs, H.cells (wr h2 (h.length + 2) cs) (h.length + 2) = some cs := fun cs => cells_wr2 lr3
    (try (simp (disch := first | omega | (simp <;> omega) | fail) only [push_cast, ↓reduceIte, Nat.reduceEqDiff, Nat.reduceAdd, Nat.reduceMul, Nat.reduceSub, Nat.reduceLT, Int.reduceToNat, hshr, r3, hlen3, hos, hpm2]))
    all_goals (try exact ⟨s1 _, s2 _, s3 _⟩)
  · (try (simp only [decide_eq_true_eq, decide_eq_false_iff_not, Bool.not_eq_true', Bool.not_eq_false', Bool.and_eq_true, Bool.or_eq_true, Int.not_lt, Int.not_le] at hc)); (try (simp (disch := first | omega | (simp <;> omega) | fail) only [push_cast, ↓reduceIte, Nat.reduceEqDiff, Nat.reduceAdd, Nat.reduceMul, Nat.reduceSub, Nat.reduceLT, Int.reduceToNat]))
    have hie : i = L.length := by omega
    subst hie
    have hbo : ∀ (N : Nat) (f : Nat → Bool), N ≤ 5000 → FnO Tryd.prog 68 [eO (some (BL N f))] (· = eB ⟨(N : Int), some (wordsN (mkN N f) ((N + 15) / 16))⟩) := fun N f hN g => (c_spec_biSome (some (BL N f)) ((N + 15) / 16) (by show (((BL N f).length : Int) + 15) / 16 = _; rw [BL_len]; omega) (by show (BL N f).length ≤ _; rw [BL_len]; exact hN) g).mono (fun x g1 hx => by
      obtain ⟨bb, rfl, q1, q2, q3, q4⟩ := hx
      refine ⟨_, ow_B (G := fun c => g.length ≤ c) q1 q4 (by rw [wordsN_len]), ?_⟩
      show eB ⟨((BL N f).length : Int), some (wordsN (bitN (BL N f) (BL N f).length) _)⟩ = _
      rw [BL_len]
      congr 3
      unfold bitN
      congr 1
      exact mkN_congr fun j hj => BL_get hj) (fun _ _ h => h.elim)
    have hlow : (⟨(n : Int), some (wordsN (mkN n fun p => decide (p < L.length * w) && lowG L w p) ((n + 15) / 16))⟩ : Bt) = lowB L w := by
      unfold lowB
      rw [← hn]
      congr 3
      exact mkN_congr fun p hp => by simp [hp]
    have hhi : (⟨(hs : Int), some (wordsN (mkN hs (hiG L w L.length)) ((hs + 15) / 16))⟩ : Bt) = hiB L lim w := by
      unfold hiB
      rw [← hhs]
    have b1 := hbo n (fun p => decide (p < L.length * w) && lowG L w p) (by omega)
    have b2 := hbo hs (hiG L w L.length) (by omega)
    rw [hlow] at b1
    rw [hhi] at b2
    have hl1 : (lowB L w).size = (n : Int) := by rw [hn]; rfl
    have hl2 : (hiB L lim w).size = (hs : Int) := by rw [hhs]; rfl
    (try (simp (disch := first | omega | (simp <;> omega) | fail) only [push_cast, ↓reduceIte, Nat.reduceEqDiff, Nat.reduceAdd, Nat.reduceMul, Nat.reduceSub, Nat.reduceLT, Int.reduceToNat, hln]))
    refine b1.goL (.cons (vw_bl q2 (Nat.zero_le _)) .nil) fun x t g1 hR hx how => ?_
    subst hR
    obtain ⟨w1, F1, rfl, f1, f2, f3, f4, _⟩ := ow_bt how
    (try (simp (disch := first | omega | (simp <;> omega) | fail) only [push_cast, ↓reduceIte, Nat.reduceEqDiff, Nat.reduceAdd, Nat.reduceMul, Nat.reduceSub, Nat.reduceLT, Int.reduceToNat, f3, f4]))
    refine b2.goL (.cons (vw_bl (hx.cells q3) (Nat.zero_le _)) .nil) fun x t g2 hR hx2 how2 => ?_
    subst hR
    obtain ⟨w2, F2, rfl, k1, k2, k3, k4, _⟩ := ow_bt how2
    have y1 := hx2.cells (hx.cells q1)
    have hpm : (h.length ≤ h.length) = True := by simp
    have hw1 : ∀ cs, H.cells (wr g2 h.length cs) h.length = some cs := fun cs => cells_wr2 (cells_lt y1)
    have hx1l := hx.len
    have hfin : ∀ cs, ∃ t, Ow (wr g2 h.length cs) [.agg [.int .i64 L.length, .int .i64 lim, .int .i64 w, .int .i64 (lowB L w).size, w1, .int .i64 (hiB L lim w).size, w2]] [t] (fun c => h.length ≤ c) ∧ t = eSp (spV L lim) := fun cs => by
      have hwr : ∀ c, c ≠ h.length → (wr g2 h.length cs)[c]? = g2[c]? := fun c hc => by
        unfold wr
        rw [List.getElem?_set_ne (Ne.symm hc)]
      refine ⟨_, ow7b (n0 := h.length) (f1.frame fun c hc => (hwr c (by have := (f2 c hc).1; omega)).trans (hx2.at_ (f2 c hc).2)) (k1.frame fun c hc => hwr c (by have := (k2 c hc).1; omega)) (fun c hc => by have := (f2 c hc).1; omega) (fun c hc => ⟨by have := (k2 c hc).1; omega, fun h5 => by have := (k2 c hc).1; have := (f2 c h5).2; omega⟩), ?_⟩
      rw [hsv]
    unfold zero7 at y1
    (try (simp (disch := first | omega | (simp <;> omega) | fail) only [push_cast, ↓reduceIte, Nat.reduceEqDiff, Nat.reduceAdd, Nat.reduceMul, Nat.reduceSub, Nat.reduceLT, Int.reduceToNat, f3, f4, k3, k4, y1, hpm, hw1]))
    all_goals (try exact hfin _)
theorem c_spec_spOf (L : List Nat) (lim : Nat) (o : Option (List Int)) (ho : lI o = natI L) (hL : L.length ≤ 60) (h1 : 1 ≤ lim) (hl : lim ≤ 100000) (hlt : ∀ i, i < L.length → L.getD i 0 < lim) : Fn Tryd.prog 63 [eI o, .int .i64 lim] (· = eSp (spV L lim)) :=
  (c_spec_spOf_o L lim o ho hL h1 hl hlt).fn

theorem c_spec_biGood (b : Bt) : Fn Tryd.prog 44 [eB b] (· = .bool (okBt b)) := by
  refine Fn.of free_bool fun h => ?_
  refine enter (by kernel_rfl) e44 (by kernel_rfl) rfl fun hok => ?_
  simp only [r44, initEnv_1]
  (try (simp (disch := first | omega | (simp <;> omega) | fail) only [push_cast, ↓reduceIte, Nat.reduceEqDiff, Nat.reduceAdd, Nat.reduceMul, Nat.reduceSub, Nat.reduceLT, Int.reduceToNat]))
  unfold okBt
  refine (c_spec_l1In _ _ _).call ?_
  cases h1 : (decide (0 ≤ b.size) && decide (b.size ≤ 4096))
  · (try (simp (disch := first | omega | (simp <;> omega) | fail) only [push_cast, ↓reduceIte, Nat.reduceEqDiff, Nat.reduceAdd, Nat.reduceMul, Nat.reduceSub, Nat.reduceLT, Int.reduceToNat]))
  have h3 : 0 ≤ b.size ∧ b.size ≤ 4096 := by simpa using h1
  (try (simp (disch := first | omega | (simp <;> omega) | fail) only [push_cast, ↓reduceIte, Nat.reduceEqDiff, Nat.reduceAdd, Nat.reduceMul, Nat.reduceSub, Nat.reduceLT, Int.reduceToNat]))
  first | refine goC_split (fun hc => ?_) (fun hc => ?_) | refine cnd_split (fun hc => ?_) (fun hc => ?_)
  · (try (simp only [decide_eq_true_eq, decide_eq_false_iff_not, Bool.not_eq_true', Bool.not_eq_false', Bool.and_eq_true, Bool.or_eq_true, Int.not_lt, Int.not_le] at hc)); (try (simp (disch := first | omega | (simp <;> omega) | fail) only [push_cast, ↓reduceIte, Nat.reduceEqDiff, Nat.reduceAdd, Nat.reduceMul, Nat.reduceSub, Nat.reduceLT, Int.reduceToNat]))
    all_goals (try simp [hc])
  (try (simp only [decide_eq_true_eq, decide_eq_false_iff_not, Bool.not_eq_true', Bool.not_eq_false', Bool.and_eq_true, Bool.or_eq_true, Int.not_lt, Int.not_le] at hc)); (try (simp (disch := first | omega | (simp <;> omega) | fail) only [push_cast, ↓reduceIte, Nat.reduceEqDiff, Nat.reduceAdd, Nat.reduceMul, Nat.reduceSub, Nat.reduceLT, Int.reduceToNat]))
  refine (c_spec_l1All _ _ _).call ?_
  rw [show ((lI b.words).all fun m => decide (0 ≤ m) && decide (m ≤ 65535)) = okWords (lI b.words) from rfl]
  cases h2 : okWords (lI b.words)
  · (try (simp (disch := first | omega | (simp <;> omega) | fail) only [push_cast, ↓reduceIte, Nat.reduceEqDiff, Nat.reduceAdd, Nat.reduceMul, Nat.reduceSub, Nat.reduceLT, Int.reduceToNat]))
    all_goals (try simp)
  unfold lastOk
  by_cases hz : b.size % 16 = 0
  · (try (simp (disch := first | omega | (simp <;> omega) | fail) only [push_cast, ↓reduceIte, Nat.reduceEqDiff, Nat.reduceAdd, Nat.reduceMul, Nat.reduceSub, Nat.reduceLT, Int.reduceToNat, hz]))
    all_goals (try simp [hc])
  · have hln : 1 ≤ (lI b.words).length := by omega
    have hm : 0 ≤ b.size % 16 ∧ b.size % 16 ≤ 15 := by omega
    (try (simp (disch := first | omega | (simp <;> omega) | fail) only [push_cast, ↓reduceIte, Nat.reduceEqDiff, Nat.reduceAdd, Nat.reduceMul, Nat.reduceSub, Nat.reduceLT, Int.reduceToNat, hz]))
    (first | refine goC_split (fun hc => ?_) (fun hc => ?_) | refine cnd_split (fun hc => ?_) (fun hc => ?_)) <;> ((try (simp (disch := first | omega | (simp <;> omega) | fail) only [push_cast, ↓reduceIte, Nat.reduceEqDiff, Nat.reduceAdd, Nat.reduceMul, Nat.reduceSub, Nat.reduceLT, Int.reduceToNat]))) <;> (try rw [hc])

theorem c_spec_spGood (s : Spa) : Fn Tryd.prog 56 [eSp s] (· = .bool (okSp s)) := by
  refine Fn.of free_bool fun h => ?_
  obtain ⟨sc, sl, sw, ⟨ls, lws⟩, ⟨hz, hws⟩⟩ := s
  refine enter (by kernel_rfl) e56 (by kernel_rfl) rfl fun hok => ?_
  simp only [r56, initEnv_1]
  have hpre : preSp ⟨sc, sl, sw, ⟨ls, lws⟩, ⟨hz, hws⟩⟩ = false → okSp ⟨sc, sl, sw, ⟨ls, lws⟩, ⟨hz, hws⟩⟩ = false := fun h1 => by unfold okSp; rw [h1]; rfl
  (try (simp (disch := first | omega | (simp <;> omega) | fail) only [push_cast, ↓reduceIte, Nat.reduceEqDiff, Nat.reduceAdd, Nat.reduceMul, Nat.reduceSub, Nat.reduceLT, Int.reduceToNat, reads, List.mem_cons, List.mem_append, List.not_mem_nil, nat_ff, or_self, or_false, false_or, not_false_eq_true]))
  refine (c_spec_l1In _ _ _).call ?_
  cases h1 : (decide (0 ≤ sc) && decide (sc ≤ 60))
  · rw [hpre (by unfold preSp; rw [h1]; rfl)]
    (try (simp (disch := first | omega | (simp <;> omega) | fail) only [push_cast, ↓reduceIte, Nat.reduceEqDiff, Nat.reduceAdd, Nat.reduceMul, Nat.reduceSub, Nat.reduceLT, Int.reduceToNat, reads, List.mem_cons, List.mem_append, List.not_mem_nil, nat_ff, or_self, or_false, false_or, not_false_eq_true]))
  (try (simp (disch := first | omega | (simp <;> omega) | fail) only [push_cast, ↓reduceIte, Nat.reduceEqDiff, Nat.reduceAdd, Nat.reduceMul, Nat.reduceSub, Nat.reduceLT, Int.reduceToNat, reads, List.mem_cons, List.mem_append, List.not_mem_nil, nat_ff, or_self, or_false, false_or, not_false_eq_true]))
  refine (c_spec_spLimit sl).call ?_
  cases h2 : limOk sl
  · rw [hpre (by unfold preSp; rw [h2]; simp)]
    (try (simp (disch := first | omega | (simp <;> omega) | fail) only [push_cast, ↓reduceIte, Nat.reduceEqDiff, Nat.reduceAdd, Nat.reduceMul, Nat.reduceSub, Nat.reduceLT, Int.reduceToNat, reads, List.mem_cons, List.mem_append, List.not_mem_nil, nat_ff, or_self, or_false, false_or, not_false_eq_true]))
  have hcb : 0 ≤ sc ∧ sc ≤ 60 := by simp only [Bool.and_eq_true, decide_eq_true_eq] at h1; omega
  have hlb : 1 ≤ sl ∧ sl ≤ 100000 := by simp only [limOk, Bool.and_eq_true, decide_eq_true_eq] at h2; omega
  obtain ⟨cnt, rfl⟩ : ∃ k : Nat, sc = (k : Int) := ⟨sc.toNat, by omega⟩
  obtain ⟨lim, rfl⟩ : ∃ k : Nat, sl = (k : Int) := ⟨sl.toNat, by omega⟩
  (try (simp (disch := first | omega | (simp <;> omega) | fail) only [push_cast, ↓reduceIte, Nat.reduceEqDiff, Nat.reduceAdd, Nat.reduceMul, Nat.reduceSub, Nat.reduceLT, Int.reduceToNat, reads, List.mem_cons, List.mem_append, List.not_mem_nil, nat_ff, or_self, or_false, false_or, not_false_eq_true]))
  refine (c_spec_spWidth cnt lim (by omega) (by omega)).call ?_
  have hw16 := wid_le (c := cnt) (l := lim) (by omega)
  have hsl := hiS_le (n := cnt) (lim := lim) (by omega) (by omega)
  have hwid : (wid (cnt : Int).toNat (lim : Int).toNat) = wid cnt lim := rfl
  obtain ⟨w, hwd⟩ : ∃ w, w = wid cnt lim := ⟨_, rfl⟩
  rw [← hwd] at hw16 hsl hwid ⊢
  by_cases hw : sw = (w : Int)
  · subst hw
    (try (simp (disch := first | omega | (simp <;> omega) | fail) only [push_cast, ↓reduceIte, Nat.reduceEqDiff, Nat.reduceAdd, Nat.reduceMul, Nat.reduceSub, Nat.reduceLT, Int.reduceToNat, reads, List.mem_cons, List.mem_append, List.not_mem_nil, nat_ff, or_self, or_false, false_or, not_false_eq_true]))
    refine (c_spec_biGood ⟨ls, lws⟩).call ?_
    cases k1 : okBt ⟨ls, lws⟩
    · rw [hpre (by unfold preSp; rw [k1]; simp)]
      (try (simp (disch := first | omega | (simp <;> omega) | fail) only [push_cast, ↓reduceIte, Nat.reduceEqDiff, Nat.reduceAdd, Nat.reduceMul, Nat.reduceSub, Nat.reduceLT, Int.reduceToNat, reads, List.mem_cons, List.mem_append, List.not_mem_nil, nat_ff, or_self, or_false, false_or, not_false_eq_true]))
    (try (simp (disch := first | omega | (simp <;> omega) | fail) only [push_cast, ↓reduceIte, Nat.reduceEqDiff, Nat.reduceAdd, Nat.reduceMul, Nat.reduceSub, Nat.reduceLT, Int.reduceToNat, reads, List.mem_cons, List.mem_append, List.not_mem_nil, nat_ff, or_self, or_false, false_or, not_false_eq_true]))
    refine (c_spec_biGood ⟨hz, hws⟩).call ?_
    cases k2 : okBt ⟨hz, hws⟩
    · rw [hpre (by unfold preSp; rw [k2]; simp)]
      (try (simp (disch := first | omega | (simp <;> omega) | fail) only [push_cast, ↓reduceIte, Nat.reduceEqDiff, Nat.reduceAdd, Nat.reduceMul, Nat.reduceSub, Nat.reduceLT, Int.reduceToNat, reads, List.mem_cons, List.mem_append, List.not_mem_nil, nat_ff, or_self, or_false, false_or, not_false_eq_true]))
    have hmb := mul_bd (x := (cnt : Int)) (y := (w : Int)) (a := 60) (b := 16) (by omega) (by omega) (by omega) (by omega)
    have hcomm : (cnt : Int) * (w : Int) = (w : Int) * (cnt : Int) := Int.mul_comm _ _
    have hsh : Int.fdiv ((lim : Int) - 1) (2 ^ (min w IntKind.i64.bits)) = (((lim - 1) / 2 ^ w : Nat) : Int) := by
      rw [← shrN (a := lim - 1) (b := w) (by omega)]
      congr 1
      omega
    by_cases hsz : ls = (cnt : Int) * (w : Int)
    · have hp : preSp ⟨(cnt : Int), (lim : Int), (w : Int), ⟨ls, lws⟩, ⟨hz, hws⟩⟩ = true := by
        unfold preSp
        simp only
        rw [h1, h2, k1, k2, decide_eq_true (show ls = (w : Int) * (cnt : Int) by rw [hsz, hcomm]), hwid]
        simp
      have hdz : decide (ls = (cnt : Int) * (w : Int)) = true := decide_eq_true hsz
      obtain ⟨cnt2, lim2, n, e1, e2, e3, e4, e5, e6, e7, e8, e9, ho, hls⟩ := preSp_of hp
      simp only at e1 e2 e3 e4 e7 e8 e9
      have e1' : cnt2 = cnt := by omega
      have e2' : lim2 = lim := by omega
      subst e1' e2' e4
      rw [← hwd] at e3 e9 ho hls
      have hhiS : (cnt2 : Int) + (((lim2 - 1) / 2 ^ w : Nat) : Int) + 1 = ((hiS cnt2 lim2 w : Nat) : Int) := by unfold hiS; omega
      obtain ⟨sq, hsq⟩ : ∃ sq, sq = (lim2 - 1) / 2 ^ w := ⟨_, rfl⟩
      rw [← hsq] at hsh hhiS
      obtain ⟨hs, hhs⟩ : ∃ hs, hs = hiS cnt2 lim2 w := ⟨_, rfl⟩
      rw [← hhs] at hhiS hsl
      have hlist := c_spec_spList ⟨(cnt2 : Int), (lim2 : Int), (w : Int), ⟨ls, lws⟩, ⟨(n : Int), hws⟩⟩ _ _ _ _ _ _ _ ho
      rw [← hls] at hlist
      have hok2 : okSp ⟨(cnt2 : Int), (lim2 : Int), (w : Int), ⟨ls, lws⟩, ⟨(n : Int), hws⟩⟩ = ((decide ((spLs ⟨(cnt2 : Int), (lim2 : Int), (w : Int), ⟨ls, lws⟩, ⟨(n : Int), hws⟩⟩).length = cnt2) && srt (natI (spLs ⟨(cnt2 : Int), (lim2 : Int), (w : Int), ⟨ls, lws⟩, ⟨(n : Int), hws⟩⟩)) lim2) && (sameB (lowB (spLs ⟨(cnt2 : Int), (lim2 : Int), (w : Int), ⟨ls, lws⟩, ⟨(n : Int), hws⟩⟩) w) ⟨ls, lws⟩ && sameB (hiB (spLs ⟨(cnt2 : Int), (lim2 : Int), (w : Int), ⟨ls, lws⟩, ⟨(n : Int), hws⟩⟩) lim2 w) ⟨(n : Int), hws⟩)) := by
        unfold okSp
        rw [hp]
        rfl
      clear hls
      generalize spLs ⟨(cnt2 : Int), (lim2 : Int), (w : Int), ⟨ls, lws⟩, ⟨(n : Int), hws⟩⟩ = L at *
      by_cases hns : n = hs
      · have hdn : decide ((n : Int) = (hs : Int)) = true := by simp [hns]
        (try (simp (disch := first | omega | (simp <;> omega) | fail) only [push_cast, ↓reduceIte, Nat.reduceEqDiff, Nat.reduceAdd, Nat.reduceMul, Nat.reduceSub, Nat.reduceLT, Int.reduceToNat, hdz, hsh, hhiS, hdn, reads, List.mem_cons, List.mem_append, List.not_mem_nil, nat_ff, or_self, or_false, false_or, not_false_eq_true]))
        refine hlist.use ?_
        rintro x ⟨o, rfl, hol⟩
        have hln : (lI o).length = L.length := by rw [hol, natI_len]
        by_cases hlc : L.length = cnt2
        · have hd1 : decide ((L.length : Int) = (cnt2 : Int)) = true := by simp [hlc]
          rw [decide_eq_true hlc, Bool.true_and] at hok2
          (try (simp (disch := first | omega | (simp <;> omega) | fail) only [push_cast, ↓reduceIte, Nat.reduceEqDiff, Nat.reduceAdd, Nat.reduceMul, Nat.reduceSub, Nat.reduceLT, Int.reduceToNat, hln, hd1, reads, List.mem_cons, List.mem_append, List.not_mem_nil, nat_ff, or_self, or_false, false_or, not_false_eq_true]))
          refine (c_spec_spSorted o lim2 (by omega) (by omega)).call ?_
          rw [hol]
          cases hsr : srt (natI L) lim2
          · rw [hsr] at hok2
            rw [hok2]
            (try (simp (disch := first | omega | (simp <;> omega) | fail) only [push_cast, ↓reduceIte, Nat.reduceEqDiff, Nat.reduceAdd, Nat.reduceMul, Nat.reduceSub, Nat.reduceLT, Int.reduceToNat, reads, List.mem_cons, List.mem_append, List.not_mem_nil, nat_ff, or_self, or_false, false_or, not_false_eq_true]))
          · rw [hsr, Bool.true_and] at hok2
            obtain ⟨s1, s2, s3, s4⟩ := srt_in hsr
            rw [natI_len] at s1 s4
            have hlt : ∀ j, j < L.length → L.getD j 0 < lim2 := fun j hj => by
              have := (s4 j hj).2
              rw [natI_get] at this
              omega
            have hsv : spV L lim2 = ⟨L.length, lim2, w, lowB L w, hiB L lim2 w⟩ := by unfold spV; rw [hlc, ← hwd]
            have hspo := c_spec_spOf L lim2 o hol s1 e5 e6 hlt
            rw [hsv] at hspo
            (try (simp (disch := first | omega | (simp <;> omega) | fail) only [push_cast, ↓reduceIte, Nat.reduceEqDiff, Nat.reduceAdd, Nat.reduceMul, Nat.reduceSub, Nat.reduceLT, Int.reduceToNat, reads, List.mem_cons, List.mem_append, List.not_mem_nil, nat_ff, or_self, or_false, false_or, not_false_eq_true]))
            refine hspo.call ?_
            generalize (lowB L w) = lB at *
            generalize (hiB L lim2 w) = hB2 at *
            obtain ⟨z1, z2⟩ := lB
            obtain ⟨z3, z4⟩ := hB2
            have hsym : ∀ a b : Bt, sameB a b = sameB b a := fun a b => by
              unfold sameB
              rw [show decide (a.size = b.size) = decide (b.size = a.size) by rw [decide_eq_decide]; exact eq_comm, show decide (lI a.words = lI b.words) = decide (lI b.words = lI a.words) by rw [decide_eq_decide]; exact eq_comm]
            (try (simp (disch := first | omega | (simp <;> omega) | fail) only [push_cast, ↓reduceIte, Nat.reduceEqDiff, Nat.reduceAdd, Nat.reduceMul, Nat.reduceSub, Nat.reduceLT, Int.reduceToNat, reads, List.mem_cons, List.mem_append, List.not_mem_nil, nat_ff, or_self, or_false, false_or, not_false_eq_true]))
            refine (c_spec_biSame ⟨ls, lws⟩ ⟨z1, z2⟩).call ?_
            rw [hsym]
            cases hs1 : sameB ⟨z1, z2⟩ ⟨ls, lws⟩
            · rw [hs1, Bool.false_and] at hok2
              rw [hok2]
              (try (simp (disch := first | omega | (simp <;> omega) | fail) only [push_cast, ↓reduceIte, Nat.reduceEqDiff, Nat.reduceAdd, Nat.reduceMul, Nat.reduceSub, Nat.reduceLT, Int.reduceToNat, reads, List.mem_cons, List.mem_append, List.not_mem_nil, nat_ff, or_self, or_false, false_or, not_false_eq_true]))
            · rw [hs1, Bool.true_and] at hok2
              rw [hok2]
              (try (simp (disch := first | omega | (simp <;> omega) | fail) only [push_cast, ↓reduceIte, Nat.reduceEqDiff, Nat.reduceAdd, Nat.reduceMul, Nat.reduceSub, Nat.reduceLT, Int.reduceToNat, reads, List.mem_cons, List.mem_append, List.not_mem_nil, nat_ff, or_self, or_false, false_or, not_false_eq_true]))
              refine (c_spec_biSame ⟨(n : Int), hws⟩ ⟨z3, z4⟩).call ?_
              rw [hsym]
              (try (simp (disch := first | omega | (simp <;> omega) | fail) only [push_cast, ↓reduceIte, Nat.reduceEqDiff, Nat.reduceAdd, Nat.reduceMul, Nat.reduceSub, Nat.reduceLT, Int.reduceToNat, reads, List.mem_cons, List.mem_append, List.not_mem_nil, nat_ff, or_self, or_false, false_or, not_false_eq_true]))
        · have hd1 : decide ((L.length : Int) = (cnt2 : Int)) = false := by simp; omega
          rw [decide_eq_false hlc] at hok2
          rw [hok2]
          (try (simp (disch := first | omega | (simp <;> omega) | fail) only [push_cast, ↓reduceIte, Nat.reduceEqDiff, Nat.reduceAdd, Nat.reduceMul, Nat.reduceSub, Nat.reduceLT, Int.reduceToNat, hln, hd1, reads, List.mem_cons, List.mem_append, List.not_mem_nil, nat_ff, or_self, or_false, false_or, not_false_eq_true]))
      · have hbad : okSp ⟨(cnt2 : Int), (lim2 : Int), (w : Int), ⟨ls, lws⟩, ⟨(n : Int), hws⟩⟩ = false := by
          rw [hok2]
          by_cases hlc : L.length = cnt2
          · have : sameB (hiB L lim2 w) ⟨(n : Int), hws⟩ = false := by
              unfold sameB
              rw [decide_eq_false (show ¬ (hiB L lim2 w).size = (n : Int) from fun h5 => hns (by
                have h6 : (hiB L lim2 w).size = ((hiS L.length lim2 w : Nat) : Int) := rfl
                rw [h6, hlc, ← hhs] at h5
                omega))]
              rfl
            rw [this]
            simp
          · rw [decide_eq_false hlc]
            rfl
        rw [hbad]
        have hdn : decide ((n : Int) = (hs : Int)) = false := by simp; omega
        (try (simp (disch := first | omega | (simp <;> omega) | fail) only [push_cast, ↓reduceIte, Nat.reduceEqDiff, Nat.reduceAdd, Nat.reduceMul, Nat.reduceSub, Nat.reduceLT, Int.reduceToNat, hdz, hsh, hhiS, hdn, reads, List.mem_cons, List.mem_append, List.not_mem_nil, nat_ff, or_self, or_false, false_or, not_false_eq_true]))
    · rw [hpre (by unfold preSp; simp only; rw [decide_eq_false (show ¬ ls = (w : Int) * (cnt : Int) from fun h5 => hsz (by rw [h5, hcomm]))]; simp)]
      have hdz : decide (ls = (cnt : Int) * (w : Int)) = false := decide_eq_false hsz
      (try (simp (disch := first | omega | (simp <;> omega) | fail) only [push_cast, ↓reduceIte, Nat.reduceEqDiff, Nat.reduceAdd, Nat.reduceMul, Nat.reduceSub, Nat.reduceLT, Int.reduceToNat, hdz, reads, List.mem_cons, List.mem_append, List.not_mem_nil, nat_ff, or_self, or_false, false_or, not_false_eq_true]))
  · rw [hpre (by unfold preSp; simp only; rw [hwid, decide_eq_false hw]; simp)]
    have hdw : decide (sw = (w : Int)) = false := decide_eq_false hw
    (try (simp (disch := first | omega | (simp <;> omega) | fail) only [push_cast, ↓reduceIte, Nat.reduceEqDiff, Nat.reduceAdd, Nat.reduceMul, Nat.reduceSub, Nat.reduceLT, Int.reduceToNat, hdw, reads, List.mem_cons, List.mem_append, List.not_mem_nil, nat_ff, or_self, or_false, false_or, not_false_eq_true]))

end Go.Proofs.YtoappkfndnggnaaDoor.M
