/-
  What the functions return.
-/
import Derived.Test.YtjfgmimgmapeeaaGreatFzg
import Derived.Test.YtjfgmimgmapeeaaGreatCzf
namespace Go.Proofs.YtjfgmimgmapeeaaGreat.M
open Go Go.RowKit
set_option linter.unusedVariables false
set_option linter.unusedSimpArgs false
set_option maxRecDepth 4000

theorem valsT_val {a b c : Int} {l : Option (List Int)} (ht : tblOk a b c l = true) (key : Str) : ((valT a b (lI l) key : Nat) : Int) ≤ 256 := by
  have F := tbl_facts ht
  have h1 := F.val_lt key
  have hw := pow_le256 (w := c.toNat) (by have := F.w1; omega)
  omega
theorem set_over {vs : List Int} {i : Nat} {x : Int} (hi : i < vs.length) : over (vs.map (AV.int .i64)) i [.int .i64 x] = (vs.set i x).map (.int .i64) := by
  rw [over_set (by simpa using hi), List.map_set]

set_option maxHeartbeats 1000000 in
theorem c_spec_ChangeValue (a b c i value : Int) (l : Option (List Int)) (keys : Option (List Str)) : Fn Tryz.prog 10 [eTab a b c l, eS keys, .int .i64 i, .int .i64 value] (· = chgV a b c l keys i value) := by
  refine Fn.of free_chgV fun h => ?_
  have hfl0 : fillA [AV.int .i64 0, .int .i64 0, .int .i64 0, .nils] [] = some [.int .i64 0, .int .i64 0, .int .i64 0, .nils] := rfl
  have hz : chgOk a b c l keys i = false → chgV a b c l keys i value = .tup [eTab 0 0 0 none, .bool false] := fun h0 => by
    unfold chgV
    rw [h0]
    rfl
  have hno : chgOk a b c l keys i = true → (decide (0 ≤ value) && decide (value ≤ ((2 ^ c.toNat : Nat) : Int) - 1)) = false → chgV a b c l keys i value = .tup [eTab 0 0 0 none, .bool false] := fun h0 h1 => by
    unfold chgV tabSolV
    rw [if_pos h0, chg_task h0, h1]
    rfl
  have hyes : chgOk a b c l keys i = true → (decide (0 ≤ value) && decide (value ≤ ((2 ^ c.toNat : Nat) : Int) - 1)) = true → chgV a b c l keys i value = tabSolO a b c (nT b) c.toNat (tabSy a b keys (some ((valsT a b (lI l) (lS keys)).set i.toNat value))) ∧ taskOk a b c keys (some ((valsT a b (lI l) (lS keys)).set i.toNat value)) = true := fun h0 h1 => by
    have h2 := chg_task (value := value) h0
    rw [h1] at h2
    refine ⟨?_, h2⟩
    unfold chgV tabSolV
    rw [if_pos h0, if_pos h2]
  generalize chgV a b c l keys i value = V at *
  have hrv := fun (ht : tblOk a b c l = true) key => c_spec_reValue a b c l key ht
  have hrt := c_spec_reTable a b c l
  unfold eTab at hrv hrt ⊢
  unfold chgOk at hz hno hyes
  refine enter (by kernel_rfl) e10 (by kernel_rfl) rfl fun hok => ?_
  simp only [r10, initEnv_4]
  have hlk := ok_eS (okV_1 hok)
  (try (simp (disch := first | omega | (simp <;> omega) | fail) only [push_cast, ↓reduceIte, Nat.reduceEqDiff, Nat.reduceAdd, Nat.reduceMul, Nat.reduceSub, Nat.reduceLT, Int.reduceToNat]))
  refine hrt.call ?_
  cases ht : tblOk a b c l
  · rw [hz (by rw [ht]; rfl)]
    (try (simp (disch := first | omega | (simp <;> omega) | fail) only [push_cast, ↓reduceIte, Nat.reduceEqDiff, Nat.reduceAdd, Nat.reduceMul, Nat.reduceSub, Nat.reduceLT, Int.reduceToNat, hfl0]))
    all_goals (try rfl)
  (try (simp (disch := first | omega | (simp <;> omega) | fail) only [push_cast, ↓reduceIte, Nat.reduceEqDiff, Nat.reduceAdd, Nat.reduceMul, Nat.reduceSub, Nat.reduceLT, Int.reduceToNat]))
  refine (c_spec_biKeys _).call ?_
  cases hk : okKeys (lS keys)
  · rw [hz (by rw [ht, hk]; rfl)]
    (try (simp (disch := first | omega | (simp <;> omega) | fail) only [push_cast, ↓reduceIte, Nat.reduceEqDiff, Nat.reduceAdd, Nat.reduceMul, Nat.reduceSub, Nat.reduceLT, Int.reduceToNat, hfl0]))
    all_goals (try rfl)
  (try (simp (disch := first | omega | (simp <;> omega) | fail) only [push_cast, ↓reduceIte, Nat.reduceEqDiff, Nat.reduceAdd, Nat.reduceMul, Nat.reduceSub, Nat.reduceLT, Int.reduceToNat]))
  refine (c_spec_l1In _ _ _).call ?_
  cases hi : (decide (0 ≤ i) && decide (i ≤ ((lS keys).length : Int) - 1))
  · rw [hz (by rw [ht, hk, hi]; rfl)]
    (try (simp (disch := first | omega | (simp <;> omega) | fail) only [push_cast, ↓reduceIte, Nat.reduceEqDiff, Nat.reduceAdd, Nat.reduceMul, Nat.reduceSub, Nat.reduceLT, Int.reduceToNat, hfl0]))
    all_goals (try rfl)
  have hco : (tblOk a b c l && (okKeys (lS keys) && (decide (0 ≤ i) && decide (i ≤ ((lS keys).length : Int) - 1)))) = true := by rw [ht, hk, hi]; rfl
  have F := tbl_facts ht
  have hvb := fun key => valsT_val ht key
  have hkl : (lS keys).length ≤ 40 := by
    simp only [okKeys, Bool.and_eq_true, decide_eq_true_eq] at hk
    omega
  simp only [Bool.and_eq_true, decide_eq_true_eq] at hi
  obtain ⟨j, rfl⟩ : ∃ j : Nat, i = (j : Int) := ⟨i.toNat, by omega⟩
  rw [Int.toNat_natCast] at hyes
  obtain ⟨w, hw⟩ : ∃ w : Nat, c = (w : Int) := ⟨c.toNat, by have := F.w0; omega⟩
  have hw1 := F.w1
  obtain ⟨T, hT⟩ : ∃ T : Int, T = ((2 ^ c.toNat : Nat) : Int) := ⟨_, rfl⟩
  rw [← hT] at hno hyes
  have h4 := pow_le256 (w := w) (by omega)
  have hT2 : T = ((2 ^ w : Nat) : Int) := by rw [hT, hw, Int.toNat_natCast]
  have htop := c_spec_reTop w (by omega) T hT2
  rw [← hT2] at h4
  rw [← hw] at htop
  clear hT hT2 hk hz
  (try (simp (disch := first | omega | (simp <;> omega) | fail) only [push_cast, ↓reduceIte, Nat.reduceEqDiff, Nat.reduceAdd, Nat.reduceMul, Nat.reduceSub, Nat.reduceLT, Int.reduceToNat]))
  refine htop.call ?_
  (try (simp (disch := first | omega | (simp <;> omega) | fail) only [push_cast, ↓reduceIte, Nat.reduceEqDiff, Nat.reduceAdd, Nat.reduceMul, Nat.reduceSub, Nat.reduceLT, Int.reduceToNat]))
  refine (c_spec_l1In _ _ _).call ?_
  cases hv : (decide (0 ≤ value) && decide (value ≤ T - 1))
  · rw [hno hco hv]
    (try (simp (disch := first | omega | (simp <;> omega) | fail) only [push_cast, ↓reduceIte, Nat.reduceEqDiff, Nat.reduceAdd, Nat.reduceMul, Nat.reduceSub, Nat.reduceLT, Int.reduceToNat, hfl0]))
    all_goals (try rfl)
  obtain ⟨hV, htask⟩ := hyes hco hv
  rw [hV]
  clear hV hno hyes hco
  obtain ⟨vs, hvs⟩ : ∃ vs, vs = valsT a b (lI l) (lS keys) := ⟨_, rfl⟩
  have hvl : vs.length = (lS keys).length := by rw [hvs, valsT_len]
  have hsolve := c_spec_reSolved a b c keys _ htask
  rw [← hvs] at hsolve ⊢
  obtain ⟨ra, rb, rc, rl, rq, hres, _⟩ := tabSolO_tup a b c (nT b) c.toNat (tabSy a b keys (some (vs.set j value)))
  rw [hres] at hsolve ⊢
  clear hres htask
  (try (simp (disch := first | omega | (simp <;> omega) | fail) only [push_cast, ↓reduceIte, Nat.reduceEqDiff, Nat.reduceAdd, Nat.reduceMul, Nat.reduceSub, Nat.reduceLT, Int.reduceToNat]))
  refine T_for (lS keys).length (fun k e h' => ∃ v B, Pins e [(1, eS keys), (2, .int .i64 j), (3, .int .i64 value), (4, .adr h.length 0), (8, .adr (h.length + 1) 0), (10, v), (39, eS keys), (40, .int .i64 (lS keys).length), (41, .int .i64 k)] ∧ h'.cells h.length = some [.int .i64 a, .int .i64 b, .int .i64 c, eI l] ∧ h'.cells (h.length + 1) = some [.int .i64 0, .int .i64 0, .int .i64 0, .nils] ∧ S1 h' 1 v k ((vs.take k).map (.int .i64)) B ∧ (∀ b ∈ B, h.length + 2 ≤ b)) ?_ ?_
  · (try (simp (disch := first | omega | (simp <;> omega) | fail) only [push_cast, ↓reduceIte, Nat.reduceEqDiff, Nat.reduceAdd, Nat.reduceMul, Nat.reduceSub, Nat.reduceLT, Int.reduceToNat]))
    all_goals (try exact ⟨_, [], rfl, by simpa using S1.nil, by simp⟩)
    all_goals (try exact ⟨_, [], rfl, by rw [cells_h0]; rfl, by rw [cells_hk]; rfl, by simpa using S1.nil, by simp⟩)
  rintro k e h' hk ⟨v, B, hp, q1, q2, q3, q4⟩
  refine T_pins hp fun e => ?_
  have hl1 := cells_lt q2
  (try (simp (disch := first | omega | (simp <;> omega) | fail) only [push_cast, ↓reduceIte, Nat.reduceEqDiff, Nat.reduceAdd, Nat.reduceMul, Nat.reduceSub, Nat.reduceLT, Int.reduceToNat]))
  first | refine goC_split (fun hc => ?_) (fun hc => ?_) | refine cnd_split (fun hc => ?_) (fun hc => ?_)
  · (try (simp only [decide_eq_true_eq, decide_eq_false_iff_not, Bool.not_eq_true', Bool.not_eq_false', Bool.and_eq_true, Bool.or_eq_true, Int.not_lt, Int.not_le] at hc)); (try (simp (disch := first | omega | (simp <;> omega) | fail) only [push_cast, ↓reduceIte, Nat.reduceEqDiff, Nat.reduceAdd, Nat.reduceMul, Nat.reduceSub, Nat.reduceLT, Int.reduceToNat]))
    have hk2 : k < (lS keys).length := by omega
    have htk := valsT_take (seed := a) (seg := b) (l := lI l) hk2
    rw [← hvs] at htk
    (try (simp (disch := first | omega | (simp <;> omega) | fail) only [push_cast, ↓reduceIte, Nat.reduceEqDiff, Nat.reduceAdd, Nat.reduceMul, Nat.reduceSub, Nat.reduceLT, Int.reduceToNat, q1]))
    refine (hrv ht _).call ?_
    have hvb2 := hvb ((lS keys).getD k [])
    generalize ((valT a b (lI l) ((lS keys).getD k []) : Nat) : Int) = x at *
    (try (simp (disch := first | omega | (simp <;> omega) | fail) only [push_cast, ↓reduceIte, Nat.reduceEqDiff, Nat.reduceAdd, Nat.reduceMul, Nat.reduceSub, Nat.reduceLT, Int.reduceToNat]))
    refine (q3.frame (h' := h' ++ _) fun c hc => List.getElem?_append_left (q3.lt c hc)).app0 (new := [.int .i64 x]) (k := 1) (by_ := 8) (fun b hb => Or.inr (by have := q4 b hb; omega)) rfl (by omega) fun v2 h2 B2 a1 a2 a3 a4 a5 => ?_
    simp only [List.length_append, List.length_cons, List.length_nil] at a2 a3 a4
    have a1' : S1 h2 1 v2 (k + 1) ((vs.take (k + 1)).map (.int .i64)) B2 := by
      rw [htk]
      simpa using a1
    have q1' := cells_keep ((a3 _ (by omega) fun hb => by have := q4 _ hb; omega).trans (List.getElem?_append_left (by omega))) q1
    have q2' := cells_keep ((a3 _ (by omega) fun hb => by have := q4 _ hb; omega).trans (List.getElem?_append_left (by omega))) q2
    have q4' : ∀ b ∈ B2, h.length + 2 ≤ b := fun b hb => by
      rcases a4 b hb with h5 | h5
      · exact q4 b h5
      · omega
    (try (simp (disch := first | omega | (simp <;> omega) | fail) only [push_cast, ↓reduceIte, Nat.reduceEqDiff, Nat.reduceAdd, Nat.reduceMul, Nat.reduceSub, Nat.reduceLT, Int.reduceToNat]))
    all_goals (try exact ⟨_, B2, rfl, q1', q2', a1', q4'⟩)
  · (try (simp only [decide_eq_true_eq, decide_eq_false_iff_not, Bool.not_eq_true', Bool.not_eq_false', Bool.and_eq_true, Bool.or_eq_true, Int.not_lt, Int.not_le] at hc)); (try (simp (disch := first | omega | (simp <;> omega) | fail) only [push_cast, ↓reduceIte, Nat.reduceEqDiff, Nat.reduceAdd, Nat.reduceMul, Nat.reduceSub, Nat.reduceLT, Int.reduceToNat]))
    have hke : k = (lS keys).length := by omega
    subst hke
    rw [List.take_of_length_le (by omega)] at q3
    rcases q3.2 with ⟨_, h0, _⟩ | ⟨bv, rfl, rfl, hcv⟩
    · omega
    have hbv := q4 bv (by simp)
    have hbl := cells_lt hcv
    have hov := set_over (vs := vs) (i := j) (x := value) (by omega)
    have hpm : (h.length ≤ bv) = True := by rw [eq_iff_iff]; exact ⟨fun _ => trivial, fun _ => by omega⟩
    have hlv : (vs.map (AV.int .i64)).length = (lS keys).length := by rw [List.length_map, hvl]
    have hwk : ∀ c, c ≠ bv → (wr h' bv ((vs.set j value).map (.int .i64)))[c]? = h'[c]? := fun c hc => by
      unfold wr
      rw [List.getElem?_set_ne (Ne.symm hc)]
    have w1 := cells_keep (hwk h.length (by omega)) q1
    have w2 := cells_keep (hwk (h.length + 1) (by omega)) q2
    have wv : (wr h' bv ((vs.set j value).map (.int .i64))).cells bv = some ((vs.set j value).map (.int .i64)) := cells_wr2 hbl
    have wl : (wr h' bv ((vs.set j value).map (.int .i64))).length = h'.length := by simp [wr]
    (try (simp (disch := first | omega | (simp <;> omega) | fail) only [push_cast, ↓reduceIte, Nat.reduceEqDiff, Nat.reduceAdd, Nat.reduceMul, Nat.reduceSub, Nat.reduceLT, Int.reduceToNat, hcv, hlv, hov, hpm, Int.toNat_natCast]))
    generalize wr h' bv ((vs.set j value).map (.int .i64)) = g at *
    (try (simp (disch := first | omega | (simp <;> omega) | fail) only [push_cast, ↓reduceIte, Nat.reduceEqDiff, Nat.reduceAdd, Nat.reduceMul, Nat.reduceSub, Nat.reduceLT, Int.reduceToNat, w1]))
    refine Call.sink (fun b => decide (h.length + 2 ≤ b)) (ts := [.int .i64 a, eS keys, eI (some (vs.set j value)), .int .i64 b, .int .i64 c]) rfl (fun k x t hx ht => ?_) (fun b _ hb => Or.inr (by have := of_decide_eq_true hb; omega)) ?_
    · rcases k with _ | _ | _ | _ | _ | k
      · simp at hx ht
        exact .inl (hx.symm.trans ht)
      · simp at hx ht
        exact .inl (hx.symm.trans ht)
      · simp at hx ht
        subst hx ht
        refine .inr ?_
        show Vw _ _ _ (.ro 1 ((vs.set j value).map (.int .i64)) (vs.set j value).length)
        rw [List.length_set, hvl]
        exact vw_all (n := 0) (b := bv) (sz := 1) (len := (lS keys).length) (cs := (vs.set j value).map (.int .i64)) (Nat.zero_le _) (cells_keep (filt_t (by simpa using hbv)) wv) (by simp [hvl]) (one_map fun _ => rfl) (free_map_ fun _ => free_int)
      · simp at hx ht
        exact .inl (hx.symm.trans ht)
      · simp at hx ht
        exact .inl (hx.symm.trans ht)
      · simp at hx
    refine hsolve.call ?_
    have g2 : H.cells (filt (fun b => !decide (h.length + 2 ≤ b)) g) (h.length + 1) = some [.int .i64 0, .int .i64 0, .int .i64 0, .nils] := cells_keep (filt_t (by simp)) w2
    have g3 : h.length + 1 < (filt (fun b => !decide (h.length + 2 ≤ b)) g).length := by rw [filt_len]; omega
    generalize filt (fun b => !decide (h.length + 2 ≤ b)) g = g at *
    have hw2 := cells_wr2 g3 (cs := [AV.int .i64 ra, .int .i64 rb, .int .i64 rc, eI rl])
    have hpm2 : (h.length ≤ h.length + 1) = True := by simp
    unfold eTab
    (try (simp (disch := first | omega | (simp <;> omega) | fail) only [push_cast, ↓reduceIte, Nat.reduceEqDiff, Nat.reduceAdd, Nat.reduceMul, Nat.reduceSub, Nat.reduceLT, Int.reduceToNat, g2, hpm2, hw2]))

def marksI (k : Int) (n : Nat) : List Int := (List.range n).map fun i : Nat => k + (i : Int)
theorem marksI_len {k : Int} {n : Nat} : (marksI k n).length = n := by simp [marksI]
theorem marksI_get {k : Int} {n i : Nat} (hi : i < n) : (marksI k n).getD i 0 = k + (i : Int) := by simp [marksI, hi]
theorem marksI_succ {k : Int} {n : Nat} : marksI k (n + 1) = marksI k n ++ [k + (n : Int)] := by simp [marksI, List.range_succ]
def mkI (k : Int) (a : Option (List Int)) : Option (List Int) := a.map fun l => marksI k l.length
theorem lI_mkI {k : Int} {a : Option (List Int)} : lI (mkI k a) = marksI k (lI a).length := by cases a <;> rfl
theorem setL_next {α : Type} {f : α → AV} {m l : List α} {x : α} {i : Nat} (hm : m.length = i) (hi : i < l.length) : ((m ++ l.drop i).map f).set i (f x) = (m ++ [x] ++ l.drop (i + 1)).map f := by
  subst hm
  rw [List.drop_eq_getElem_cons hi]
  simp only [List.map_append, List.map_cons, List.map_nil, List.append_assoc, List.cons_append, List.nil_append]
  have := set_last (p := m.map f) (r := (l.drop (m.length + 1)).map f) (x := f l[m.length]) (y := f x)
  rw [List.length_map] at this
  exact this

def mkB (k : Int) : List Bt → List Bt
  | [] => []
  | b :: l => ⟨k, mkI (k + 1) b.words⟩ :: mkB (k + 1 + (lI b.words).length) l
def offB (l : List Bt) : Nat := (l.map fun b => 1 + (lI b.words).length).sum
theorem mkB_len : ∀ {k : Int} {l : List Bt}, (mkB k l).length = l.length
  | _, [] => rfl
  | _, b :: l => by simp [mkB, mkB_len]
theorem mkB_app : ∀ {k : Int} {l : List Bt} {b : Bt}, mkB k (l ++ [b]) = mkB k l ++ [⟨k + offB l, mkI (k + offB l + 1) b.words⟩]
  | k, [], b => by simp [mkB, offB]
  | k, a :: l, b => by
    rw [List.cons_append, mkB, mkB_app, mkB, List.cons_append]
    have e : k + 1 + ((lI a.words).length : Int) + (offB l : Int) = k + (offB (a :: l) : Int) := by
      simp only [offB, List.map_cons, List.sum_cons]
      omega
    rw [e]
theorem offB_take {l : List Bt} {i : Nat} (hi : i < l.length) : offB (l.take (i + 1)) = offB (l.take i) + (1 + (lI (l.getD i default).words).length) := by
  unfold offB
  rw [List.map_take, List.map_take, sum_take_succ (by simpa using hi)]
  simp [hi]
theorem offB_le (l : List Bt) (i : Nat) : offB (l.take i) ≤ offB l := by
  unfold offB
  rw [List.map_take]
  exact sum_take_le _ i
def mkU (k : Int) (l : List Bt) (i : Nat) : List Bt := mkB k (l.take i) ++ l.drop i
theorem mkU_len {k : Int} {l : List Bt} {i : Nat} : (mkU k l i).length = l.length := by
  simp [mkU, mkB_len]
  omega
theorem mkU_get {k : Int} {l : List Bt} {i : Nat} (hi : i < l.length) : (mkU k l i).getD i default = l.getD i default := by
  unfold mkU
  have h1 : (mkB k (l.take i)).length = i := by
    rw [mkB_len, List.length_take]
    omega
  rw [List.getD_eq_getElem?_getD, List.getElem?_append_right (by omega), h1, Nat.sub_self, List.getElem?_drop]
  simp
theorem mkU_succ {k : Int} {l : List Bt} {i : Nat} (hi : i < l.length) : mkU k l (i + 1) = (mkU k l i).set i ⟨k + offB (l.take i), mkI (k + offB (l.take i) + 1) (l.getD i default).words⟩ := by
  have h1 : (mkB k (l.take i)).length = i := by
    rw [mkB_len, List.length_take]
    omega
  have ht : l.take (i + 1) = l.take i ++ [l.getD i default] := by
    rw [List.take_add_one]
    simp [hi]
  have hd : l.drop i = l.getD i default :: l.drop (i + 1) := by
    rw [List.drop_eq_getElem_cons hi]
    simp [hi]
  unfold mkU
  rw [ht, mkB_app, hd, List.set_append_right _ _ (by omega), h1, Nat.sub_self]
  simp
theorem flatB_set : ∀ {L : List Bt} {i : Nat} {z : Int} {w : Option (List Int)}, i < L.length → ((L.flatMap cB).set (i * 2) (.int .i64 z)).set (i * 2 + 1) (eI w) = (L.set i ⟨z, w⟩).flatMap cB
  | [], i, z, w, hi => by simp at hi
  | p :: L, 0, z, w, _ => by simp [cB]
  | p :: L, i + 1, z, w, hi => by
    have ih := flatB_set (L := L) (i := i) (z := z) (w := w) (by simpa using hi)
    have e2 : (i + 1) * 2 = 2 + i * 2 := by omega
    have e3 : 2 + i * 2 + 1 = 2 + (i * 2 + 1) := by omega
    rw [List.flatMap_cons, e2, e3, List.set_append_right _ _ (by rw [cB_len]; omega), List.set_append_right _ _ (by rw [cB_len]; omega), cB_len, Nat.add_sub_cancel_left, Nat.add_sub_cancel_left, ih]
    simp
theorem flatB_one {L : List Bt} : (L.flatMap cB).all one = true := by
  rw [List.all_eq_true]
  intro c hc
  obtain ⟨p, _, hp⟩ := List.mem_flatMap.1 hc
  simp only [cB, List.mem_cons, List.not_mem_nil, or_false] at hp
  rcases hp with rfl | rfl
  · rfl
  · exact one_eI

theorem ow_sys {h : H} {x : AV} {z : Int} {l : List Bt} {q : List Bool} {G : Nat → Prop} (ho : Ow h [x] [eSy ⟨z, some l, some q⟩] G) : ∃ b1 b2, x = .agg [.int .i64 z, .sl b1 0 2 l.length l.length, .sl b2 0 1 q.length q.length] := by
  obtain ⟨cs, rfl, h1⟩ := Ow.openAgg (show Ow h [x] [.agg [.int .i64 z, eBS (some l), eO (some q)]] G from ho)
  have hl : cs.length = 3 := h1.len.symm
  match cs, hl, h1 with
  | [x1, x2, x3], _, h1 =>
    obtain ⟨F, F', f1, f2, f3, f4⟩ := h1.uncons
    obtain ⟨A, B, a1, a2, a3, a4⟩ := f2.uncons
    have e1 : x1 = .int .i64 z := f1.atomOf rfl
    obtain ⟨b1, e2⟩ := Ow.sl1 (show Ow h [x2] [.ro 2 _ _] A from a1)
    obtain ⟨b2, e3⟩ := Ow.sl1 (show Ow h [x3] [.ro 1 _ _] B from a2)
    subst e1 e2 e3
    exact ⟨b1, b2, rfl⟩
theorem ow_ints {h : H} {x : AV} {a : Option (List Int)} {G : Nat → Prop} (ho : Ow h [x] [eI a] G) : one x = true ∧ cellsOf x = [x] := by
  cases a with
  | none => have : x = .nils := ho.atomOf rfl; rw [this]; exact ⟨rfl, rfl⟩
  | some l => obtain ⟨b, e⟩ := Ow.sl1 (show Ow h [x] [.ro 1 _ _] G from ho); rw [e]; exact ⟨rfl, rfl⟩
theorem ow_tup2 {h : H} {x t1 : AV} {q : Bool} {G : Nat → Prop} (ho : Ow h [x] [.tup [t1, .bool q]] G) : ∃ y, x = .tup [y, .bool q] ∧ Ow h [y] [t1] G := by
  obtain ⟨cs, rfl, h1⟩ := ho.openTup
  have hl : cs.length = 2 := h1.len.symm
  match cs, hl, h1 with
  | [x1, x2], _, h1 =>
    obtain ⟨F, F', f1, f2, f3, f4⟩ := h1.uncons
    have e2 : x2 = .bool q := f2.atomOf rfl
    subst e2
    exact ⟨x1, rfl, f1.mono f3⟩
theorem offB_cp {s : Sy} : offB (lB (cpSy s).rows) + (lO (cpSy s).right).length = wSy s := by
  unfold wSy wBS offB cpSy
  simp only [lB, lO, List.map_map]
  have : ∀ l : List Bt, (l.map ((fun b : Bt => 1 + (lI b.words).length) ∘ cpB)).sum = l.length + (l.map fun p => (lI p.words).length).sum := fun l => by
    induction l with
    | nil => rfl
    | cons a l ih =>
      simp only [List.map_cons, List.sum_cons, List.length_cons, ih, Function.comp]
      have : (lI (cpB a).words).length = (lI a.words).length := rfl
      omega
  rw [this]

theorem ow_tab {h : H} {x : AV} {a b c : Int} {l : Option (List Int)} {G : Nat → Prop} (ho : Ow h [x] [eTab a b c l] G) : ∃ v, x = .agg [.int .i64 a, .int .i64 b, .int .i64 c, v] ∧ Ow h [v] [eI l] G := by
  obtain ⟨cs, rfl, h1⟩ := Ow.openAgg (show Ow h [x] [.agg [.int .i64 a, .int .i64 b, .int .i64 c, eI l]] G from ho)
  have hl : cs.length = 4 := h1.len.symm
  match cs, hl, h1 with
  | [x0, x1, x2, x3], _, h1 =>
    obtain ⟨F, F', f1, f2, f3, f4⟩ := h1.uncons
    obtain ⟨A, A', a1, a2, a3, a4⟩ := f2.uncons
    obtain ⟨B, B', b1, b2, b3, b4⟩ := a2.uncons
    have e0 : x0 = .int .i64 a := f1.atomOf rfl
    have e1 : x1 = .int .i64 b := a1.atomOf rfl
    have e2 : x2 = .int .i64 c := b1.atomOf rfl
    subst e0 e1 e2
    exact ⟨x3, rfl, b2.mono fun c hc => (f4 c (a4 c (b4 c hc).1).1).1⟩
theorem ow_tab2 {h : H} {v : AV} {a b c : Int} {l : Option (List Int)} {G : Nat → Prop} (ho : Ow h [v] [eI l] G) : Ow h [.agg [.int .i64 a, .int .i64 b, .int .i64 c, v]] [eTab a b c l] G := Ow.aggOf (.atom rfl (.atom rfl (.atom rfl ho)))

set_option maxHeartbeats 1000000 in
theorem c_impl_ChangeValue_o (a b c i value : Int) (l : Option (List Int)) (keys : Option (List Str)) : FnO Tryz.prog 13 [eTab a b c l, eS keys, .int .i64 i, .int .i64 value] (· = chgV a b c l keys i value) := by
  intro h
  have hfl0 : fillA [AV.int .i64 0, .int .i64 0, .int .i64 0, .nils] [] = some [.int .i64 0, .int .i64 0, .int .i64 0, .nils] := rfl
  have hnone : ∀ g : H, ∃ t, Ow g [.tup [.agg [.int .i64 0, .int .i64 0, .int .i64 0, .nils], .bool false]] [t] (fun c => h.length ≤ c) ∧ t = .tup [eTab 0 0 0 none, .bool false] := fun g => ⟨_, (Ow.two (F := fun _ => False) (F' := fun _ => False) (Ow.aggOf (.atom rfl (.atom rfl (.atom rfl (.atom rfl .nil))))) (.atom rfl .nil) (fun _ h => h.elim) (fun _ h => h.elim)).tupOf, rfl⟩
  have hz : chgOk a b c l keys i = false → chgV a b c l keys i value = .tup [eTab 0 0 0 none, .bool false] := fun h0 => by
    unfold chgV
    rw [h0]
    rfl
  have hyes : chgOk a b c l keys i = true → chgV a b c l keys i value = tabSolV a b c keys (some ((valsT a b (lI l) (lS keys)).set i.toNat value)) := fun h0 => by
    unfold chgV
    rw [if_pos h0]
  generalize chgV a b c l keys i value = V at *
  have hof := fun (ht : tblOk a b c l = true) key => c_impl_Table_of a b c l key ht
  have hrt := c_impl_IsTable a b c l
  have hfr : ∀ x ∈ [AV.int .i64 a, .int .i64 b, .int .i64 c, eI l], Free x := free_cons_ free_int (free_cons_ free_int (free_cons_ free_int (free_cons_ free_eI free_nil_)))
  unfold eTab at hrt
  rw [show eTab a b c l = .agg [.int .i64 a, .int .i64 b, .int .i64 c, eI l] from rfl]
  unfold chgOk at hz hyes
  refine enter (by kernel_rfl) e13 (by kernel_rfl) rfl fun hok => ?_
  simp only [r13, initEnv_4]
  have hlk := ok_eS (okV_1 hok)
  (try (simp (disch := first | omega | (simp <;> omega) | fail) only [push_cast, ↓reduceIte, Nat.reduceEqDiff, Nat.reduceAdd, Nat.reduceMul, Nat.reduceSub, Nat.reduceLT, Int.reduceToNat]))
  refine hrt.call ?_
  cases ht : tblOk a b c l
  · rw [hz (by rw [ht]; rfl)]
    (try (simp (disch := first | omega | (simp <;> omega) | fail) only [push_cast, ↓reduceIte, Nat.reduceEqDiff, Nat.reduceAdd, Nat.reduceMul, Nat.reduceSub, Nat.reduceLT, Int.reduceToNat, hfl0]))
    all_goals (try exact hnone _)
  (try (simp (disch := first | omega | (simp <;> omega) | fail) only [push_cast, ↓reduceIte, Nat.reduceEqDiff, Nat.reduceAdd, Nat.reduceMul, Nat.reduceSub, Nat.reduceLT, Int.reduceToNat]))
  refine (c_impl_AreKeys _).call ?_
  cases hk : okKeys (lS keys)
  · rw [hz (by rw [ht, hk]; rfl)]
    (try (simp (disch := first | omega | (simp <;> omega) | fail) only [push_cast, ↓reduceIte, Nat.reduceEqDiff, Nat.reduceAdd, Nat.reduceMul, Nat.reduceSub, Nat.reduceLT, Int.reduceToNat, hfl0]))
    all_goals (try exact hnone _)
  (try (simp (disch := first | omega | (simp <;> omega) | fail) only [push_cast, ↓reduceIte, Nat.reduceEqDiff, Nat.reduceAdd, Nat.reduceMul, Nat.reduceSub, Nat.reduceLT, Int.reduceToNat]))
  refine (c_impl_in _ _ _).call ?_
  cases hi : (decide (0 ≤ i) && decide (i ≤ ((lS keys).length : Int) - 1))
  · rw [hz (by rw [ht, hk, hi]; rfl)]
    (try (simp (disch := first | omega | (simp <;> omega) | fail) only [push_cast, ↓reduceIte, Nat.reduceEqDiff, Nat.reduceAdd, Nat.reduceMul, Nat.reduceSub, Nat.reduceLT, Int.reduceToNat, hfl0]))
    all_goals (try exact hnone _)
  have hco : (tblOk a b c l && (okKeys (lS keys) && (decide (0 ≤ i) && decide (i ≤ ((lS keys).length : Int) - 1)))) = true := by rw [ht, hk, hi]; rfl
  have hvb := fun key => valsT_val ht key
  have hkl : (lS keys).length ≤ 40 := by
    simp only [okKeys, Bool.and_eq_true, decide_eq_true_eq] at hk
    omega
  simp only [Bool.and_eq_true, decide_eq_true_eq] at hi
  obtain ⟨j, rfl⟩ : ∃ j : Nat, i = (j : Int) := ⟨i.toNat, by omega⟩
  rw [Int.toNat_natCast] at hyes
  have hV := hyes hco
  rw [hV]
  clear hV hyes hco hk hz
  obtain ⟨vs, hvs⟩ : ∃ vs, vs = valsT a b (lI l) (lS keys) := ⟨_, rfl⟩
  have hvl : vs.length = (lS keys).length := by rw [hvs, valsT_len]
  rw [← hvs]
  have hsolve := c_impl_TableBySolving_o a b c keys (some (vs.set j value))
  obtain ⟨ra, rb, rc, rl, rq, hres, _⟩ := tabSolV_tup a b c keys (some (vs.set j value))
  rw [hres] at hsolve ⊢
  clear hres
  (try (simp (disch := first | omega | (simp <;> omega) | fail) only [push_cast, ↓reduceIte, Nat.reduceEqDiff, Nat.reduceAdd, Nat.reduceMul, Nat.reduceSub, Nat.reduceLT, Int.reduceToNat]))
  refine T_for (lS keys).length (fun k e h' => ∃ v B, Pins e [(1, eS keys), (2, .int .i64 j), (3, .int .i64 value), (4, .adr h.length 0), (8, .adr (h.length + 1) 0), (10, v), (31, eS keys), (32, .int .i64 (lS keys).length), (33, .int .i64 k)] ∧ h'.cells h.length = some [.int .i64 a, .int .i64 b, .int .i64 c, eI l] ∧ h'.cells (h.length + 1) = some [.int .i64 0, .int .i64 0, .int .i64 0, .nils] ∧ S1 h' 1 v k ((vs.take k).map (.int .i64)) B ∧ (∀ b ∈ B, h.length + 2 ≤ b)) ?_ ?_
  · (try (simp (disch := first | omega | (simp <;> omega) | fail) only [push_cast, ↓reduceIte, Nat.reduceEqDiff, Nat.reduceAdd, Nat.reduceMul, Nat.reduceSub, Nat.reduceLT, Int.reduceToNat]))
    all_goals (try exact ⟨_, [h.length + 2], rfl, ⟨by simp, .inr ⟨h.length + 2, rfl, rfl, by rw [cells_hk]; rfl⟩⟩, by simp⟩)
    all_goals (try exact ⟨_, [h.length + 2], rfl, by rw [cells_h0]; rfl, by rw [cells_hk]; rfl, ⟨by simp, .inr ⟨h.length + 2, rfl, rfl, by rw [cells_hk]; rfl⟩⟩, by simp⟩)
  rintro k e h' hk ⟨v, B, hp, q1, q2, q3, q4⟩
  refine T_pins hp fun e => ?_
  have hl1 := cells_lt q2
  (try (simp (disch := first | omega | (simp <;> omega) | fail) only [push_cast, ↓reduceIte, Nat.reduceEqDiff, Nat.reduceAdd, Nat.reduceMul, Nat.reduceSub, Nat.reduceLT, Int.reduceToNat]))
  first | refine goC_split (fun hc => ?_) (fun hc => ?_) | refine cnd_split (fun hc => ?_) (fun hc => ?_)
  · (try (simp only [decide_eq_true_eq, decide_eq_false_iff_not, Bool.not_eq_true', Bool.not_eq_false', Bool.and_eq_true, Bool.or_eq_true, Int.not_lt, Int.not_le] at hc)); (try (simp (disch := first | omega | (simp <;> omega) | fail) only [push_cast, ↓reduceIte, Nat.reduceEqDiff, Nat.reduceAdd, Nat.reduceMul, Nat.reduceSub, Nat.reduceLT, Int.reduceToNat]))
    have hk2 : k < (lS keys).length := by omega
    have htk := valsT_take (seed := a) (seg := b) (l := lI l) hk2
    rw [← hvs] at htk
    (try (simp (disch := first | omega | (simp <;> omega) | fail) only [push_cast, ↓reduceIte, Nat.reduceEqDiff, Nat.reduceAdd, Nat.reduceMul, Nat.reduceSub, Nat.reduceLT, Int.reduceToNat]))
    refine (hof ht _).lendL (.adr q1 hfr (.free free_str .nil)) own_int ?_
    have hvb2 := hvb ((lS keys).getD k [])
    generalize ((valT a b (lI l) ((lS keys).getD k []) : Nat) : Int) = x at *
    (try (simp (disch := first | omega | (simp <;> omega) | fail) only [push_cast, ↓reduceIte, Nat.reduceEqDiff, Nat.reduceAdd, Nat.reduceMul, Nat.reduceSub, Nat.reduceLT, Int.reduceToNat]))
    refine (q3.frame (h' := h' ++ _) fun c hc => List.getElem?_append_left (q3.lt c hc)).app0 (new := [.int .i64 x]) (k := 1) (by_ := 8) (fun b hb => Or.inr (by have := q4 b hb; omega)) rfl (by omega) fun v2 h2 B2 a1 a2 a3 a4 a5 => ?_
    simp only [List.length_append, List.length_cons, List.length_nil] at a2 a3 a4
    have a1' : S1 h2 1 v2 (k + 1) ((vs.take (k + 1)).map (.int .i64)) B2 := by
      rw [htk]
      simpa using a1
    have q1' := cells_keep ((a3 _ (by omega) fun hb => by have := q4 _ hb; omega).trans (List.getElem?_append_left (by omega))) q1
    have q2' := cells_keep ((a3 _ (by omega) fun hb => by have := q4 _ hb; omega).trans (List.getElem?_append_left (by omega))) q2
    have q4' : ∀ b ∈ B2, h.length + 2 ≤ b := fun b hb => by
      rcases a4 b hb with h5 | h5
      · exact q4 b h5
      · omega
    (try (simp (disch := first | omega | (simp <;> omega) | fail) only [push_cast, ↓reduceIte, Nat.reduceEqDiff, Nat.reduceAdd, Nat.reduceMul, Nat.reduceSub, Nat.reduceLT, Int.reduceToNat]))
    all_goals (try exact ⟨_, B2, rfl, q1', q2', a1', q4'⟩)
  · (try (simp only [decide_eq_true_eq, decide_eq_false_iff_not, Bool.not_eq_true', Bool.not_eq_false', Bool.and_eq_true, Bool.or_eq_true, Int.not_lt, Int.not_le] at hc)); (try (simp (disch := first | omega | (simp <;> omega) | fail) only [push_cast, ↓reduceIte, Nat.reduceEqDiff, Nat.reduceAdd, Nat.reduceMul, Nat.reduceSub, Nat.reduceLT, Int.reduceToNat]))
    have hke : k = (lS keys).length := by omega
    subst hke
    rw [List.take_of_length_le (by omega)] at q3
    rcases q3.2 with ⟨_, h0, _⟩ | ⟨bv, rfl, rfl, hcv⟩
    · omega
    have hbv := q4 bv (by simp)
    have hbl := cells_lt hcv
    have hov := set_over (vs := vs) (i := j) (x := value) (by omega)
    have hpm : (h.length ≤ bv) = True := by rw [eq_iff_iff]; exact ⟨fun _ => trivial, fun _ => by omega⟩
    have hlv : (vs.map (AV.int .i64)).length = (lS keys).length := by rw [List.length_map, hvl]
    have hwk : ∀ c, c ≠ bv → (wr h' bv ((vs.set j value).map (.int .i64)))[c]? = h'[c]? := fun c hc => by
      unfold wr
      rw [List.getElem?_set_ne (Ne.symm hc)]
    have w1 := cells_keep (hwk h.length (by omega)) q1
    have w2 := cells_keep (hwk (h.length + 1) (by omega)) q2
    have wv : (wr h' bv ((vs.set j value).map (.int .i64))).cells bv = some ((vs.set j value).map (.int .i64)) := cells_wr2 hbl
    have wl : (wr h' bv ((vs.set j value).map (.int .i64))).length = h'.length := by simp [wr]
    (try (simp (disch := first | omega | (simp <;> omega) | fail) only [push_cast, ↓reduceIte, Nat.reduceEqDiff, Nat.reduceAdd, Nat.reduceMul, Nat.reduceSub, Nat.reduceLT, Int.reduceToNat, hcv, hlv, hov, hpm, Int.toNat_natCast]))
    generalize wr h' bv ((vs.set j value).map (.int .i64)) = g at *
    (try (simp (disch := first | omega | (simp <;> omega) | fail) only [push_cast, ↓reduceIte, Nat.reduceEqDiff, Nat.reduceAdd, Nat.reduceMul, Nat.reduceSub, Nat.reduceLT, Int.reduceToNat, w1]))
    have hvw : Vw g 0 (.sl bv 0 1 (lS keys).length (lS keys).length) (eI (some (vs.set j value))) := by
      show Vw _ _ _ (.ro 1 ((vs.set j value).map (.int .i64)) (vs.set j value).length)
      rw [List.length_set, hvl]
      exact vw_all (n := 0) (b := bv) (sz := 1) (len := (lS keys).length) (cs := (vs.set j value).map (.int .i64)) (Nat.zero_le _) wv (by simp [hvl]) (one_map fun _ => rfl) (free_map_ fun _ => free_int)
    refine hsolve.goL (.free free_int (.free free_eS (.cons hvw (.free free_int (.free free_int .nil))))) fun y t g2 hR hx2 how => ?_
    subst hR
    obtain ⟨y0, rfl, how2⟩ := ow_tup2 how
    obtain ⟨g0, rfl, how3⟩ := ow_tab how2
    have og := ow_ints how3
    have w3 := hx2.cells w2
    have hl2 := hx2.len
    have hw2 := cells_wr2 (cells_lt w3) (cs := [AV.int .i64 ra, .int .i64 rb, .int .i64 rc, g0])
    have hpm2 : (h.length ≤ h.length + 1) = True := by simp
    (try (simp (disch := first | omega | (simp <;> omega) | fail) only [push_cast, ↓reduceIte, Nat.reduceEqDiff, Nat.reduceAdd, Nat.reduceMul, Nat.reduceSub, Nat.reduceLT, Int.reduceToNat, w3, hpm2, hw2, og.1, og.2]))
    refine ⟨_, (Ow.two (F := fun c => h.length ≤ c) (F' := fun _ => False) (ow_tab2 ((how3.frame (h' := wr g2 (h.length + 1) _) fun c hc => ?_).mono fun c hc => ?_)) (.atom rfl .nil) (fun c hc => hc) (fun _ h => h.elim)).tupOf, rfl⟩
    · unfold wr
      rw [List.getElem?_set_ne (by have := hc.1; omega)]
    · have := hc.1
      omega

end Go.Proofs.YtjfgmimgmapeeaaGreat.M
