/-
  What the functions return.
-/
import Derived.Test.YtjfgmimgmapeeaaGreatFys
import Derived.Test.YtjfgmimgmapeeaaGreatCyq
namespace Go.Proofs.YtjfgmimgmapeeaaGreat.M
open Go Go.RowKit
set_option linter.unusedVariables false
set_option linter.unusedSimpArgs false
set_option maxRecDepth 4000

theorem c_spec_l1Least (a b : Int) : Fn Tryz.prog 110 [.int .i64 a, .int .i64 b] (· = .int .i64 (if a < b then a else b)) := by
  refine Fn.of free_int fun h => ?_
  refine enter (by kernel_rfl) e110 (by kernel_rfl) rfl fun hok => ?_
  simp only [r110, initEnv_2]
  (try (simp (disch := first | omega | (simp <;> omega) | fail) only [push_cast, ↓reduceIte, Nat.reduceEqDiff, Nat.reduceAdd, Nat.reduceMul, Nat.reduceSub, Nat.reduceLT, Int.reduceToNat]))
  first | refine goC_split (fun hc => ?_) (fun hc => ?_) | refine cnd_split (fun hc => ?_) (fun hc => ?_)
  · (try (simp only [decide_eq_true_eq, decide_eq_false_iff_not, Bool.not_eq_true', Bool.not_eq_false', Bool.and_eq_true, Bool.or_eq_true, Int.not_lt, Int.not_le] at hc)); (try (simp (disch := first | omega | (simp <;> omega) | fail) only [push_cast, ↓reduceIte, Nat.reduceEqDiff, Nat.reduceAdd, Nat.reduceMul, Nat.reduceSub, Nat.reduceLT, Int.reduceToNat]))
    all_goals (try rw [if_pos hc])
  · (try (simp only [decide_eq_true_eq, decide_eq_false_iff_not, Bool.not_eq_true', Bool.not_eq_false', Bool.and_eq_true, Bool.or_eq_true, Int.not_lt, Int.not_le] at hc)); (try (simp (disch := first | omega | (simp <;> omega) | fail) only [push_cast, ↓reduceIte, Nat.reduceEqDiff, Nat.reduceAdd, Nat.reduceMul, Nat.reduceSub, Nat.reduceLT, Int.reduceToNat]))
    all_goals (try rw [if_neg (by omega)])

theorem c_spec_l1Cur_segment2 (b : Nat) (c : Option (List UInt8)) (K : Nat) (h : H) (n : Nat) (hcu : CurI h b c K) (hK : K ≤ 10000000) (hn : n ≤ 100) :
    Call Tryz.prog 138 [.adr b 0, .int .i64 n] h (fun b' => b' = b) (fun x g => (∃ m : Int, x = .int .i64 m ∧ -1 ≤ m ∧ m ≤ 100) ∧ CurF h g b c (K + 4)) := by
  refine Call.cur hcu.lt ?_
  refine enter (by kernel_rfl) e138 (by kernel_rfl) rfl fun hok => ?_
  simp only [r138, initEnv_2]
  have hbl := hcu.lt
  (try (simp (disch := first | omega | (simp <;> omega) | fail) only [push_cast, ↓reduceIte, Nat.reduceEqDiff, Nat.reduceAdd, Nat.reduceMul, Nat.reduceSub, Nat.reduceLT, Int.reduceToNat]))
  refine (c_spec_l1Cur_one b c K h 10 hcu (by omega) (by omega) (by omega)).mono (fun x h1 hx => ?_) (fun b' _ hb' => Or.inl hb')
  obtain ⟨⟨t, rfl⟩, hs⟩ := hx
  have hF := hs.f
  cases t
  · obtain ⟨n3, hn3, hn4⟩ : ∃ n3 : Nat, ((n : Int)).tdiv 3 = (n3 : Int) ∧ n3 ≤ 100 := ⟨n / 3, by rw [Int.tdiv_eq_ediv_of_nonneg (by omega)]; omega, by omega⟩
    (try (simp (disch := first | omega | (simp <;> omega) | fail) only [push_cast, ↓reduceIte, Nat.reduceEqDiff, Nat.reduceAdd, Nat.reduceMul, Nat.reduceSub, Nat.reduceLT, Int.reduceToNat, hn3]))
    refine (c_spec_l1Cur_pick b c _ h1 4 hs.2.2 (by omega) (by omega) (by omega)).mono (fun x h2 hx => ?_) (fun b' _ hb' => Or.inl hb')
    obtain ⟨⟨q, rfl, q0, q1⟩, hs2⟩ := hx
    have hF2 := hF.trans hs2.f
    (try (simp (disch := first | omega | (simp <;> omega) | fail) only [push_cast, ↓reduceIte, Nat.reduceEqDiff, Nat.reduceAdd, Nat.reduceMul, Nat.reduceSub, Nat.reduceLT, Int.reduceToNat, hn3]))
    refine (c_spec_l1Least _ 23).call ?_
    by_cases hlt : (n3 : Int) + q < 23
    · rw [if_pos hlt]
      (try (simp (disch := first | omega | (simp <;> omega) | fail) only [push_cast, ↓reduceIte, Nat.reduceEqDiff, Nat.reduceAdd, Nat.reduceMul, Nat.reduceSub, Nat.reduceLT, Int.reduceToNat]))
      all_goals (try exact ⟨_, .free free_int, ⟨_, rfl, by omega, by omega⟩, hF2.mono (by omega)⟩)
    · rw [if_neg hlt]
      (try (simp (disch := first | omega | (simp <;> omega) | fail) only [push_cast, ↓reduceIte, Nat.reduceEqDiff, Nat.reduceAdd, Nat.reduceMul, Nat.reduceSub, Nat.reduceLT, Int.reduceToNat]))
      all_goals (try exact ⟨_, .free free_int, ⟨_, rfl, by omega, by omega⟩, hF2.mono (by omega)⟩)
  · (try (simp (disch := first | omega | (simp <;> omega) | fail) only [push_cast, ↓reduceIte, Nat.reduceEqDiff, Nat.reduceAdd, Nat.reduceMul, Nat.reduceSub, Nat.reduceLT, Int.reduceToNat]))
    refine ⟨rfl, ?_⟩
    have hM := (CurF.refl hs.2.2).more (l := [some (AObj.cells (([-1, 0, 24, 25] : List Int).map (.int .i64)))])
    refine (c_spec_l1Cur_among b c _ (h1 ++ [some (AObj.cells (([-1, 0, 24, 25] : List Int).map (.int .i64)))]) h1.length [-1, 0, 24, 25] hM.2.2 (by omega) (by decide) (by decide) (by rw [cells_h0]; rfl) (by have := hs.2.2.lt; omega)).mono (fun x h2 hx => ?_) (fun b' _ hb' => Or.inl hb')
    obtain ⟨⟨s, rfl, hsm⟩, hs2⟩ := hx
    have hF2 := (hF.trans hM).trans hs2.f
    have hsl : -1 ≤ s ∧ s ≤ 100 := by
      simp at hsm
      omega
    (try (simp (disch := first | omega | (simp <;> omega) | fail) only [push_cast, ↓reduceIte, Nat.reduceEqDiff, Nat.reduceAdd, Nat.reduceMul, Nat.reduceSub, Nat.reduceLT, Int.reduceToNat]))
    all_goals (try exact ⟨_, .free free_int, ⟨_, rfl, hsl.1, hsl.2⟩, hF2.mono (by omega)⟩)

theorem c_spec_l1Clip (a b : Int) (hb : 0 ≤ b) : Fn Tryz.prog 137 [.int .i64 a, .int .i64 b] (fun x => ∃ n : Nat, x = .int .i64 n ∧ (n : Int) ≤ b) := by
  intro h
  refine Call.gc (Call.mono (?_ : Call Tryz.prog 137 [.int .i64 a, .int .i64 b] h Nowhere (fun x _ => ∃ n : Nat, x = .int .i64 n ∧ (n : Int) ≤ b)) (fun x _ ⟨n, hn, hx⟩ => ⟨⟨n, hn, hx⟩, by rw [hn]; exact free_int⟩) (fun _ _ h => h))
  refine enter (by kernel_rfl) e137 (by kernel_rfl) rfl fun hok => ?_
  simp only [r137, initEnv_2]
  (try (simp (disch := first | omega | (simp <;> omega) | fail) only [push_cast, ↓reduceIte, Nat.reduceEqDiff, Nat.reduceAdd, Nat.reduceMul, Nat.reduceSub, Nat.reduceLT, Int.reduceToNat]))
  refine (c_spec_l1Least a b).call ?_
  (try (simp (disch := first | omega | (simp <;> omega) | fail) only [push_cast, ↓reduceIte, Nat.reduceEqDiff, Nat.reduceAdd, Nat.reduceMul, Nat.reduceSub, Nat.reduceLT, Int.reduceToNat]))
  refine (c_spec_l1Most 0 _).call ?_
  (try (simp (disch := first | omega | (simp <;> omega) | fail) only [push_cast, ↓reduceIte, Nat.reduceEqDiff, Nat.reduceAdd, Nat.reduceMul, Nat.reduceSub, Nat.reduceLT, Int.reduceToNat]))
  by_cases h1 : a < b
  · rw [if_pos h1]
    by_cases h2 : a < 0
    · rw [if_pos h2]
      exact ⟨0, rfl, by simpa using hb⟩
    · rw [if_neg h2]
      exact ⟨a.toNat, by rw [Int.toNat_of_nonneg (by omega)], by omega⟩
  · rw [if_neg h1]
    by_cases h2 : b < 0
    · omega
    · rw [if_neg h2]
      exact ⟨b.toNat, by rw [Int.toNat_of_nonneg (by omega)], by omega⟩

/-- A table that is drawn, in its box. -/
def TbD (h g : H) (b : Nat) (c : Option (List UInt8)) (K b3 : Nat) (sd sg wd : Int) (v : AV) (l : List Int) : Prop :=
  b < h.length ∧ h.length + 1 ≤ b3 ∧ CurI g b c K ∧ g.cells h.length = some [.int .i64 0, .int .i64 0, .int .i64 0, .nils] ∧ (h.length ≤ g.length ∧ ∀ k, k < h.length → k ≠ b → g[k]? = h[k]?) ∧
  g.cells b3 = some [.int .i64 sd, .int .i64 sg, .int .i64 wd, v] ∧ ∃ Bv, S1 g 1 v l.length (l.map (.int .i64)) Bv ∧ ∀ k ∈ Bv, h.length + 1 ≤ k ∧ k ≠ b3
theorem TbD.keep {h g g2 : H} {b K K' b3 : Nat} {c : Option (List UInt8)} {sd sg wd : Int} {v : AV} {l : List Int} (hp : TbD h g b c K b3 sd sg wd v l) (hF : CurF g g2 b c K') : TbD h g2 b c K' b3 sd sg wd v l := by
  obtain ⟨p1, p2, p3, p4, p5, p6, Bv, p7, p8⟩ := hp
  obtain ⟨f1, f2, f3⟩ := hF
  exact ⟨p1, p2, f3, cells_keep (f2 _ (cells_lt p4) (by omega)) p4, ⟨by omega, fun k hk hn => (f2 k (by omega) hn).trans (p5.2 k hk hn)⟩, cells_keep (f2 _ (cells_lt p6) (by omega)) p6, Bv, p7.frame fun k hk => f2 k (p7.lt k hk) (by have := (p8 k hk).1; omega), p8⟩
theorem TbD.mono {h g : H} {b K K' b3 : Nat} {c : Option (List UInt8)} {sd sg wd : Int} {v : AV} {l : List Int} (hp : TbD h g b c K b3 sd sg wd v l) (hk : K ≤ K') : TbD h g b c K' b3 sd sg wd v l := hp.keep ((CurF.refl hp.2.2.1).mono hk)
theorem TbD.more {h g l2 : H} {b K b3 : Nat} {c : Option (List UInt8)} {sd sg wd : Int} {v : AV} {l : List Int} (hp : TbD h g b c K b3 sd sg wd v l) : TbD h (g ++ l2) b c K b3 sd sg wd v l := hp.keep (CurF.refl hp.2.2.1).more
theorem TbD.cur {h g : H} {b K b3 : Nat} {c : Option (List UInt8)} {sd sg wd : Int} {v : AV} {l : List Int} (hp : TbD h g b c K b3 sd sg wd v l) : CurI g b c K := hp.2.2.1
theorem TbD.one_ {h g : H} {b K b3 : Nat} {c : Option (List UInt8)} {sd sg wd : Int} {v : AV} {l : List Int} (hp : TbD h g b c K b3 sd sg wd v l) : one v = true ∧ cellsOf v = [v] := by
  obtain ⟨p1, p2, p3, p4, p5, p6, Bv, p7, p8⟩ := hp
  exact p7.one_
theorem TbD.lenA {h g : H} {b K b3 : Nat} {c : Option (List UInt8)} {sd sg wd : Int} {v : AV} {l : List Int} (hp : TbD h g b c K b3 sd sg wd v l) : lenA v = some (.int .i64 l.length) := by
  obtain ⟨p1, p2, p3, p4, p5, p6, Bv, h3, p8⟩ := hp
  rcases h3.2 with ⟨rfl, h0, _⟩ | ⟨b, rfl, _, _⟩
  · rw [h0]; rfl
  · rfl
theorem TbD.box {h g : H} {b K b3 : Nat} {c : Option (List UInt8)} {sd sg wd : Int} {v : AV} {l : List Int} (hp : TbD h g b c K b3 sd sg wd v l) (sd' sg' wd' : Int) : TbD h (wr g b3 [.int .i64 sd', .int .i64 sg', .int .i64 wd', v]) b c K b3 sd' sg' wd' v l := by
  obtain ⟨p1, p2, p3, p4, p5, p6, Bv, p7, p8⟩ := hp
  have hw : ∀ k, k ≠ b3 → (wr g b3 [AV.int .i64 sd', .int .i64 sg', .int .i64 wd', v])[k]? = g[k]? := fun k hk => by
    unfold wr
    rw [List.getElem?_set_ne (Ne.symm hk)]
  exact ⟨p1, p2, p3.frame (hw _ (by omega)), cells_keep (hw _ (by omega)) p4, ⟨by simpa [wr] using p5.1, fun k hk hn => (hw _ (by omega)).trans (p5.2 k hk hn)⟩, cells_wr2 (cells_lt p6), Bv, p7.frame fun k hk => hw _ (p8 k hk).2, p8⟩
theorem TbD.app {h g : H} {b K b3 : Nat} {c : Option (List UInt8)} {sd sg wd q : Int} {v : AV} {l : List Int} {pm : Nat → Prop} {Q : AV → H → Prop} (hp : TbD h g b c K b3 sd sg wd v l) (hpm : ∀ k, h.length ≤ k → pm k) (hN : l.length ≤ 1000000)
    (hQ : ∀ v' g2, TbD h (wr g2 b3 [.int .i64 sd, .int .i64 sg, .int .i64 wd, v']) b c K b3 sd sg wd v' (l ++ [q]) → g2.cells b3 = some [.int .i64 sd, .int .i64 sg, .int .i64 wd, v] → b3 < g2.length → one v' = true → cellsOf v' = [v'] → Q v' g2) : apA pm (g ++ [some (.cells [.int .i64 q])]) Q 1 8 (some ([.int .i64 q], 1)) v := by
  obtain ⟨p1, p2, p3, p4, p5, p6, Bv, p7, p8⟩ := hp
  have l0 := cells_lt p4
  have l3 := cells_lt p6
  refine (p7.frame (h' := g ++ _) fun k hk => List.getElem?_append_left (p7.lt k hk)).app0 (new := [.int .i64 q]) (k := 1) (by_ := 8) (fun k hk => hpm k (by have := (p8 k hk).1; omega)) rfl (by omega) fun w2 g2 B2 a1 a2 a3 a4 a5 => ?_
  simp only [List.length_append, List.length_cons, List.length_nil] at a2 a3 a4
  have hk2 : ∀ k, k < g.length → k ∉ Bv → g2[k]? = g[k]? := fun k hk hn => (a3 k (by omega) hn).trans (List.getElem?_append_left hk)
  have hn3 : b3 ∉ Bv := fun hb => (p8 _ hb).2 rfl
  have hnl : ∀ k, k ≤ h.length → k ∉ Bv := fun k hk hb => by have := (p8 _ hb).1; omega
  have hwk : ∀ k, k ≠ b3 → (wr g2 b3 [.int .i64 sd, .int .i64 sg, .int .i64 wd, w2])[k]? = g2[k]? := fun k hk => by
    unfold wr
    rw [List.getElem?_set_ne (Ne.symm hk)]
  have hB2 : ∀ k ∈ B2, h.length + 1 ≤ k ∧ k ≠ b3 := fun k hk => by
    rcases a4 k hk with h5 | h5
    · exact p8 k h5
    · exact ⟨by omega, by omega⟩
  have ho := a1.one_
  refine hQ w2 g2 ⟨p1, p2, p3.frame ((hwk _ (by omega)).trans (hk2 _ (by omega) (hnl _ (by omega)))), cells_keep ((hwk _ (by omega)).trans (hk2 _ l0 (hnl _ (Nat.le_refl _)))) p4, ⟨by simp [wr]; omega, fun k hk hn => (hwk _ (by omega)).trans ((hk2 _ (by omega) (hnl _ (by omega))).trans (p5.2 k hk hn))⟩, cells_wr2 (by omega), B2, ?_, hB2⟩ (cells_keep (hk2 _ l3 hn3) p6) (by omega) ho.1 ho.2
  have := a1.frame (h' := wr g2 b3 [.int .i64 sd, .int .i64 sg, .int .i64 wd, w2]) fun k hk => hwk k (hB2 k hk).2
  simpa using this
theorem S1.vwInt0 {h : H} {n0 n : Nat} {v : AV} {l : List Int} {B : List Nat} (hs : S1 h 1 v n (l.map (.int .i64)) B) (hb : ∀ b ∈ B, n0 ≤ b) : ∃ o, Vw h n0 v (eI o) ∧ lI o = l := by
  have hn : n = l.length := by have := hs.1; simp at this; omega
  subst hn
  rcases hs.2 with ⟨rfl, h0, rfl⟩ | ⟨b, rfl, rfl, hc⟩
  · exact ⟨none, .free free_nils, (List.eq_nil_of_length_eq_zero h0).symm⟩
  · exact ⟨some l, vw_all (hb b (by simp)) hc (by simp) (one_map fun _ => rfl) (free_map_ fun _ => free_int), rfl⟩
/-- What is seen of it, once it is in the result's box. -/
theorem TbD.fin {h g : H} {b K b3 : Nat} {c : Option (List UInt8)} {sd sg wd : Int} {v : AV} {l : List Int} (hp : TbD h g b c K b3 sd sg wd v l) : ∃ t, Vw (wr g h.length [.int .i64 sd, .int .i64 sg, .int .i64 wd, v]) h.length (.agg [.int .i64 sd, .int .i64 sg, .int .i64 wd, v]) t ∧ (∃ (sd sg wd : Int) (o : Option (List Int)), t = eTab sd sg wd o ∧ lI o = l) ∧ CurF h (wr g h.length [.int .i64 sd, .int .i64 sg, .int .i64 wd, v]) b c K := by
  obtain ⟨p1, p2, p3, p4, p5, p6, Bv, p7, p8⟩ := hp
  have hw : ∀ (cs : List AV) k, k ≠ h.length → (wr g h.length cs)[k]? = g[k]? := fun cs k hk => by
    unfold wr
    rw [List.getElem?_set_ne (Ne.symm hk)]
  obtain ⟨o, ho, hol⟩ := (p7.frame (h' := wr g h.length [.int .i64 sd, .int .i64 sg, .int .i64 wd, v]) fun k hk => hw _ k (by have := (p8 k hk).1; omega)).vwInt0 (n0 := h.length) fun k hk => by have := (p8 k hk).1; omega
  refine ⟨eTab sd sg wd o, .agg rfl fun j y t hy ht => ?_, ⟨sd, sg, wd, o, rfl, hol⟩, by simpa [wr] using p5.1, fun k hk hn => (hw _ k (by omega)).trans (p5.2 k hk hn), p3.frame (hw _ _ (by omega))⟩
  rcases j with _ | _ | _ | _ | j
  · simp at hy ht
    subst hy ht
    exact .free free_int
  · simp at hy ht
    subst hy ht
    exact .free free_int
  · simp at hy ht
    subst hy ht
    exact .free free_int
  · simp at hy ht
    subst hy ht
    exact ho
  · simp at hy

/-- A cut that may also return. -/
def CR (R : Env → H → Prop) (Q : Ex → Env → H → Prop) : Ex → Env → H → Prop
  | .normal => R
  | .exit _ => fun _ _ => False
  | .ret => Q .ret
theorem CR_n {R : Env → H → Prop} {Q : Ex → Env → H → Prop} {e : Env} {h : H} : CR R Q .normal e h = R e h := (rfl)
theorem CR_r {R : Env → H → Prop} {Q : Ex → Env → H → Prop} {e : Env} {h : H} : CR R Q .ret e h = Q .ret e h := (rfl)
attribute [push_cast] CR_n CR_r
theorem vw_tupL {h : H} {n : Nat} {cs ts : List AV} (hl : ts.length = cs.length) (hv : ∀ (i : Nat) (y t : AV), cs[i]? = some y → ts[i]? = some t → Vw h n y t) : Vw h n (.tup cs) (.tup ts) := .tup hl hv
def endC4 (Q : AV → H → Prop) (h : H) (y z w : AV) : Option AV → Prop
  | some x => Q (.tup [x, y, z, w]) h
  | none => False
theorem endC4_some {Q : AV → H → Prop} {h : H} {x y z w : AV} : endC4 Q h y z w (some x) = Q (.tup [x, y, z, w]) h := (rfl)
theorem Ends_cttt {n sz k l m : Nat} {ag : Bool} {Q : AV → H → Prop} {e : Env} {h : H} : Ends [.cell ag sz n, .t k, .t l, .t m] Q .ret e h = endC4 Q h (e k) (e l) (e m) (loadAdr h ag sz (e n)) := by
  have hE : Ends [.cell ag sz n, .t k, .t l, .t m] Q .ret e h = (match resV [.cell ag sz n, .t k, .t l, .t m] e h with | some x => Q x h | none => False) := rfl
  rw [hE]
  have hr : resV [.cell ag sz n, .t k, .t l, .t m] e h = (resOf e h (.cell ag sz n)).map fun x => .tup [x, e k, e l, e m] := by
    simp only [resV, List.mapM_cons, List.mapM_nil]
    have h1 : ∀ k, resOf e h (.t k) = some (e k) := fun _ => rfl
    rw [h1, h1, h1]
    cases resOf e h (.cell ag sz n) <;> rfl
  rw [hr, resOf_c]
  cases loadAdr h ag sz (e n) <;> rfl
--eng endC4_some Ends_cttt

attribute [push_cast] endC4_some Ends_cttt
theorem GrD.put0 {h g : H} {b K : Nat} {c : Option (List UInt8)} {v : AV} {l : List Int} (hg : GrD (.int .i64) h g b c K v l) (hl : 0 < l.length) : ∃ bv, v = .sl bv 0 1 l.length l.length ∧ g.cells bv = some (l.map (.int .i64)) ∧ h.length ≤ bv ∧ ∀ q, GrD (.int .i64) h (wr g bv ((l.set 0 q).map (.int .i64))) b c K v (l.set 0 q) := by
  obtain ⟨h1, h2, B, h3, h4⟩ := hg
  rcases h3.2 with ⟨_, h0, _⟩ | ⟨bv, rfl, rfl, hc⟩
  · omega
  have hb := h4 bv (by simp)
  refine ⟨bv, rfl, hc, hb, fun q => ?_⟩
  have hw : ∀ (cs : List AV) k, k ≠ bv → (wr g bv cs)[k]? = g[k]? := fun cs k hk => by
    unfold wr
    rw [List.getElem?_set_ne (Ne.symm hk)]
  refine ⟨⟨by simpa [wr] using h1.1, fun k hk hn => (hw _ _ (by omega)).trans (h1.2.1 k hk hn), h1.2.2.frame (hw _ _ (by omega))⟩, h2, [bv], ?_, h4⟩
  rw [List.length_set]
  exact ⟨by simp, .inr ⟨bv, rfl, rfl, cells_wr2 (cells_lt hc)⟩⟩

def TaskR (x : AV) : Prop := ∃ (seed : Int) (ks : Option (List Str)) (vs : Option (List Int)) (seg w : Int), x = .tup [.int .i64 seed, eS ks, eI vs, .int .i64 seg, .int .i64 w] ∧ (lS ks).length ≤ 42 ∧ (lI vs).length ≤ 43
theorem c_spec_l1Cur_pick8 (b : Nat) (c : Option (List UInt8)) (K : Nat) (h : H) (w : Nat) (hcu : CurI h b c K) (hK : K ≤ 10000000) (hw : w ≤ 8) (T : Int) (hT : T = ((2 ^ w : Nat) : Int)) :
    Call Tryz.prog 71 [.adr b 0, .int .i64 T] h (fun b' => b' = b) (fun x g => (∃ m : Int, x = .int .i64 m) ∧ CurF h g b c (K + 2)) := by
  have h1 := Nat.two_pow_pos w
  have h2 : 2 ^ w ≤ 2 ^ 8 := Nat.pow_le_pow_right (by decide) hw
  by_cases h3 : 1 < T
  · exact (c_spec_l1Cur_pickN b c K h T hcu (by omega) h3 (by omega)).mono (fun x h' hx => ⟨⟨_, hx.1.choose_spec.1⟩, hx.2.f⟩) (fun _ _ h => h)
  · exact (c_spec_l1Cur_pickAny b c K h T hcu (by omega) (by omega)).mono (fun x h' hx => ⟨⟨_, hx.1.choose_spec.1⟩, hx.2.f.mono (by omega)⟩) (fun _ _ h => h)
set_option maxHeartbeats 4000000 in
theorem c_spec_l1Cur_task (b : Nat) (c : Option (List UInt8)) (K : Nat) (h : H) (hcu : CurI h b c K) (hK : K ≤ 100000) :
    Call Tryz.prog 79 [.adr b 0] h (fun b' => b' = b) (fun x g => TaskR x ∧ CurF h g b c (K + 1000)) := by
  refine Call.cur hcu.lt ?_
  refine enter (by kernel_rfl) e79 (by kernel_rfl) rfl fun hok => ?_
  simp only [r79, initEnv_1]
  have hbl := hcu.lt
  generalize hD4 : RCode.seq (.reg (⟨some 62, .v (.mov (.t 7)), none⟩ :: _)) _ = D4
  generalize hD3 : RCode.seq (RCode.seq (.reg (⟨some 47, .v (.mov (.t 0)), none⟩ :: _)) _) D4 = D3
  generalize hD2 : RCode.seq (RCode.seq (.reg (⟨some 39, .v (.mov (.t 0)), none⟩ :: _)) _) D3 = D2
  generalize hD1 : RCode.seq (.reg [⟨some 10, .v (.mov (.c .nils)), none⟩]) _ = D1
  have t4 : ∀ (e : Env) (g : H) (sd w : Int) (ks : Option (List Str)) (v : AV) (l : List Int) (K' : Nat), (lS ks).length ≤ 42 → l.length ≤ 43 → K' ≤ K + 900 → GrD (.int .i64) h g b c K' v l → Pins e [(0, .adr b 0), (7, .int .i64 sd), (8, eS ks), (9, .int .i64 w), (10, v)] → T Tryz.prog (fun b' => b' = b ∨ h.length ≤ b') D4 (M.K Tryz.prog (fun b' => b' = b ∨ h.length ≤ b') [] (Ends [.t 2, .t 3, .t 4, .t 5, .t 6] fun x g => ∃ t, Vw g h.length x t ∧ TaskR t ∧ CurF h g b c (K + 1000))) e g := by
    intro e g sd w ks v l K' hks hll hK' hG hp
    rw [← hD4]
    refine T_pins hp fun e => ?_
    (try (simp (disch := first | omega | (simp <;> omega) | fail) only [push_cast, ↓reduceIte, Nat.reduceEqDiff, Nat.reduceAdd, Nat.reduceMul, Nat.reduceSub, Nat.reduceLT, Int.reduceToNat]))
    refine (c_spec_l1Cur_segment2 b c K' g (lS ks).length hG.1.2.2 (by omega) (by omega)).mono (fun x g2 hx => ?_) (fun b' _ hb' => Or.inl hb')
    obtain ⟨⟨seg, rfl, sg0, sg1⟩, hF⟩ := hx
    have hG2 := hG.step hF
    obtain ⟨f1, f2, B, f3, f4⟩ := hG2
    obtain ⟨o, ho, hol⟩ := f3.vwInt0 f4
    (try (simp (disch := first | omega | (simp <;> omega) | fail) only [push_cast, ↓reduceIte, Nat.reduceEqDiff, Nat.reduceAdd, Nat.reduceMul, Nat.reduceSub, Nat.reduceLT, Int.reduceToNat]))
    refine ⟨.tup [.int .i64 sd, eS ks, eI o, .int .i64 seg, .int .i64 w], vw_tupL rfl fun i y t hy ht => ?_, ⟨sd, ks, o, seg, w, rfl, hks, by rw [hol]; exact hll⟩, f1.mono (by omega)⟩
    rcases i with _ | _ | _ | _ | _ | i
    · simp at hy ht
      subst hy ht
      exact .free free_int
    · simp at hy ht
      subst hy ht
      exact .free free_eS
    · simp at hy ht
      subst hy ht
      exact ho
    · simp at hy ht
      subst hy ht
      exact .free free_int
    · simp at hy ht
      subst hy ht
      exact .free free_int
    · simp at hy
  have t3 : ∀ (e : Env) (g : H) (sd w : Int) (ks : Option (List Str)) (v : AV) (l : List Int) (K' : Nat), (lS ks).length ≤ 42 → l.length ≤ 43 → K' ≤ K + 850 → GrD (.int .i64) h g b c K' v l → Pins e [(0, .adr b 0), (7, .int .i64 sd), (8, eS ks), (9, .int .i64 w), (10, v)] → T Tryz.prog (fun b' => b' = b ∨ h.length ≤ b') D3 (M.K Tryz.prog (fun b' => b' = b ∨ h.length ≤ b') [] (Ends [.t 2, .t 3, .t 4, .t 5, .t 6] fun x g => ∃ t, Vw g h.length x t ∧ TaskR t ∧ CurF h g b c (K + 1000))) e g := by
    intro e g sd w ks v l K' hks hll hK' hG hp
    rw [← hD3]
    refine T_pins hp fun e => ?_
    (try (simp (disch := first | omega | (simp <;> omega) | fail) only [push_cast, ↓reduceIte, Nat.reduceEqDiff, Nat.reduceAdd, Nat.reduceMul, Nat.reduceSub, Nat.reduceLT, Int.reduceToNat]))
    refine (c_spec_l1Cur_one b c K' g 14 hG.1.2.2 (by omega) (by omega) (by omega)).mono (fun x g2 hx => ?_) (fun b' _ hb' => Or.inl hb')
    obtain ⟨⟨t, rfl⟩, hs⟩ := hx
    have hG2 := hG.step hs.f
    have hlv := hG2.lenA
    cases t
    · (try (simp (disch := first | omega | (simp <;> omega) | fail) only [push_cast, ↓reduceIte, Nat.reduceEqDiff, Nat.reduceAdd, Nat.reduceMul, Nat.reduceSub, Nat.reduceLT, Int.reduceToNat, hlv]))
      all_goals (try exact t4 _ _ _ _ _ _ _ _ hks hll (by omega) hG2 ⟨rfl, rfl, rfl, rfl, rfl, trivial⟩)
    · (try (simp (disch := first | omega | (simp <;> omega) | fail) only [push_cast, ↓reduceIte, Nat.reduceEqDiff, Nat.reduceAdd, Nat.reduceMul, Nat.reduceSub, Nat.reduceLT, Int.reduceToNat, hlv]))
      first | refine goC_split (fun hc => ?_) (fun hc => ?_) | refine cnd_split (fun hc => ?_) (fun hc => ?_)
      · (try (simp only [decide_eq_true_eq, decide_eq_false_iff_not, Bool.not_eq_true', Bool.not_eq_false', Bool.and_eq_true, Bool.or_eq_true, Int.not_lt, Int.not_le] at hc)); (try (simp (disch := first | omega | (simp <;> omega) | fail) only [push_cast, ↓reduceIte, Nat.reduceEqDiff, Nat.reduceAdd, Nat.reduceMul, Nat.reduceSub, Nat.reduceLT, Int.reduceToNat]))
        (try (simp (disch := first | omega | (simp <;> omega) | fail) only [push_cast, ↓reduceIte, Nat.reduceEqDiff, Nat.reduceAdd, Nat.reduceMul, Nat.reduceSub, Nat.reduceLT, Int.reduceToNat, hlv]))
        refine (c_spec_l1Clip w 8 (by omega)).use ?_
        rintro x ⟨wn, rfl, hwn⟩
        obtain ⟨T8, hT8⟩ : ∃ T : Int, T = ((2 ^ wn : Nat) : Int) := ⟨_, rfl⟩
        (try (simp (disch := first | omega | (simp <;> omega) | fail) only [push_cast, ↓reduceIte, Nat.reduceEqDiff, Nat.reduceAdd, Nat.reduceMul, Nat.reduceSub, Nat.reduceLT, Int.reduceToNat]))
        refine (c_spec_reTop wn (by omega) T8 hT8).call ?_
        have hM := hG2.more (l2 := [some (AObj.cells (([-1, T8, 1099511627776] : List Int).map (.int .i64)))])
        (try (simp (disch := first | omega | (simp <;> omega) | fail) only [push_cast, ↓reduceIte, Nat.reduceEqDiff, Nat.reduceAdd, Nat.reduceMul, Nat.reduceSub, Nat.reduceLT, Int.reduceToNat]))
        refine ⟨rfl, ?_⟩
        refine (c_spec_l1Cur_among b c _ (g2 ++ [some (AObj.cells (([-1, T8, 1099511627776] : List Int).map (.int .i64)))]) g2.length [-1, T8, 1099511627776] hM.1.2.2 (by omega) (by simp) (by simp) (by rw [cells_h0]; rfl) (by have := hG2.1.2.2.lt; omega)).mono (fun x g3 hx => ?_) (fun b' _ hb' => Or.inl hb')
        obtain ⟨⟨q, rfl, _⟩, hs3⟩ := hx
        have hG3 := hM.step hs3.f
        obtain ⟨bv, hv, hcv, hbv, hput⟩ := hG3.put0 (by omega)
        have hia : iaddrA 1 v (.int .i64 0) = some (.adr bv 0) := by
          rw [hv, iaddrA_sl (by omega) (by omega)]
          simp
        have hov : over (l.map (AV.int .i64)) 0 [.int .i64 q] = (l.set 0 q).map (.int .i64) := by rw [over_set (by simp; omega), List.map_set]
        have hll2 : (l.map (AV.int .i64)).length = l.length := by simp
        have hpm : (bv = b ∨ h.length ≤ bv) = True := by simp [hbv]
        (try (simp (disch := first | omega | (simp <;> omega) | fail) only [push_cast, ↓reduceIte, Nat.reduceEqDiff, Nat.reduceAdd, Nat.reduceMul, Nat.reduceSub, Nat.reduceLT, Int.reduceToNat, hia, hcv, hov, hll2, hpm]))
        all_goals (try exact t4 _ _ _ _ _ _ _ _ hks (by simp; omega) (by omega) (hput q) ⟨rfl, rfl, rfl, rfl, rfl, trivial⟩)
      · (try (simp only [decide_eq_true_eq, decide_eq_false_iff_not, Bool.not_eq_true', Bool.not_eq_false', Bool.and_eq_true, Bool.or_eq_true, Int.not_lt, Int.not_le] at hc)); (try (simp (disch := first | omega | (simp <;> omega) | fail) only [push_cast, ↓reduceIte, Nat.reduceEqDiff, Nat.reduceAdd, Nat.reduceMul, Nat.reduceSub, Nat.reduceLT, Int.reduceToNat]))
        (try (simp (disch := first | omega | (simp <;> omega) | fail) only [push_cast, ↓reduceIte, Nat.reduceEqDiff, Nat.reduceAdd, Nat.reduceMul, Nat.reduceSub, Nat.reduceLT, Int.reduceToNat, hlv]))
        all_goals (try exact t4 _ _ _ _ _ _ _ _ hks hll (by omega) hG2 ⟨rfl, rfl, rfl, rfl, rfl, trivial⟩)
  have t2 : ∀ (e : Env) (g : H) (sd w : Int) (ks : Option (List Str)) (v : AV) (l : List Int) (K' : Nat), (lS ks).length ≤ 42 → l.length ≤ 42 → K' ≤ K + 800 → GrD (.int .i64) h g b c K' v l → Pins e [(0, .adr b 0), (7, .int .i64 sd), (8, eS ks), (9, .int .i64 w), (10, v)] → T Tryz.prog (fun b' => b' = b ∨ h.length ≤ b') D2 (M.K Tryz.prog (fun b' => b' = b ∨ h.length ≤ b') [] (Ends [.t 2, .t 3, .t 4, .t 5, .t 6] fun x g => ∃ t, Vw g h.length x t ∧ TaskR t ∧ CurF h g b c (K + 1000))) e g := by
    intro e g sd w ks v l K' hks hll hK' hG hp
    rw [← hD2]
    refine T_pins hp fun e => ?_
    (try (simp (disch := first | omega | (simp <;> omega) | fail) only [push_cast, ↓reduceIte, Nat.reduceEqDiff, Nat.reduceAdd, Nat.reduceMul, Nat.reduceSub, Nat.reduceLT, Int.reduceToNat]))
    refine (c_spec_l1Cur_one b c K' g 14 hG.1.2.2 (by omega) (by omega) (by omega)).mono (fun x g2 hx => ?_) (fun b' _ hb' => Or.inl hb')
    obtain ⟨⟨t, rfl⟩, hs⟩ := hx
    have hG2 := hG.step hs.f
    cases t
    · (try (simp (disch := first | omega | (simp <;> omega) | fail) only [push_cast, ↓reduceIte, Nat.reduceEqDiff, Nat.reduceAdd, Nat.reduceMul, Nat.reduceSub, Nat.reduceLT, Int.reduceToNat]))
      all_goals (try exact t3 _ _ _ _ _ _ _ _ hks (by omega) (by omega) hG2 ⟨rfl, rfl, rfl, rfl, rfl, trivial⟩)
    · (try (simp (disch := first | omega | (simp <;> omega) | fail) only [push_cast, ↓reduceIte, Nat.reduceEqDiff, Nat.reduceAdd, Nat.reduceMul, Nat.reduceSub, Nat.reduceLT, Int.reduceToNat]))
      refine ⟨rfl, ?_⟩
      have hM := hG2.more (l2 := [some (AObj.cells (([0, -1, 300] : List Int).map (.int .i64)))])
      refine (c_spec_l1Cur_among b c _ (g2 ++ [some (AObj.cells (([0, -1, 300] : List Int).map (.int .i64)))]) g2.length [0, -1, 300] hM.1.2.2 (by omega) (by simp) (by simp) (by rw [cells_h0]; rfl) (by have := hG2.1.2.2.lt; omega)).mono (fun x g3 hx => ?_) (fun b' _ hb' => Or.inl hb')
      obtain ⟨⟨q, rfl, _⟩, hs3⟩ := hx
      have hG3 := hM.step hs3.f
      (try (simp (disch := first | omega | (simp <;> omega) | fail) only [push_cast, ↓reduceIte, Nat.reduceEqDiff, Nat.reduceAdd, Nat.reduceMul, Nat.reduceSub, Nat.reduceLT, Int.reduceToNat]))
      refine hG3.app (a := q) (by_ := 8) rfl (fun y hy => Or.inr hy) (by omega) fun v2 g4 hG4 => ?_
      (try (simp (disch := first | omega | (simp <;> omega) | fail) only [push_cast, ↓reduceIte, Nat.reduceEqDiff, Nat.reduceAdd, Nat.reduceMul, Nat.reduceSub, Nat.reduceLT, Int.reduceToNat]))
      all_goals (try exact t3 _ _ _ _ _ _ _ _ hks (by simp; omega) (by omega) hG4 ⟨rfl, rfl, rfl, rfl, rfl, trivial⟩)
  have t1 : ∀ (e : Env) (g : H) (sd w : Int) (ks : Option (List Str)) (K' : Nat), (lS ks).length ≤ 42 → K' ≤ K + 600 → CurF h g b c K' → Pins e [(0, .adr b 0), (7, .int .i64 sd), (8, eS ks), (9, .int .i64 w)] → T Tryz.prog (fun b' => b' = b ∨ h.length ≤ b') D1 (M.K Tryz.prog (fun b' => b' = b ∨ h.length ≤ b') [] (Ends [.t 2, .t 3, .t 4, .t 5, .t 6] fun x g => ∃ t, Vw g h.length x t ∧ TaskR t ∧ CurF h g b c (K + 1000))) e g := by
    intro e g sd w ks K' hks hK' hF hp
    rw [← hD1]
    refine T_pins hp fun e => ?_
    have hG0 : GrD (.int .i64) h g b c K' .nils [] := (GrD.start hcu).step hF
    (try (simp (disch := first | omega | (simp <;> omega) | fail) only [push_cast, ↓reduceIte, Nat.reduceEqDiff, Nat.reduceAdd, Nat.reduceMul, Nat.reduceSub, Nat.reduceLT, Int.reduceToNat]))
    refine T_for (lS ks).length (fun i e g' => ∃ v l, Pins e [(0, .adr b 0), (7, .int .i64 sd), (8, eS ks), (9, .int .i64 w), (10, v), (27, .int .i64 (lS ks).length), (28, .int .i64 i)] ∧ GrD (.int .i64) h g' b c (K' + 2 * i) v l ∧ l.length = i) ?_ ?_
    · refine ⟨.nils, [], ?_, hG0, rfl⟩
      (try (simp (disch := first | omega | (simp <;> omega) | fail) only [push_cast, ↓reduceIte, Nat.reduceEqDiff, Nat.reduceAdd, Nat.reduceMul, Nat.reduceSub, Nat.reduceLT, Int.reduceToNat]))
      all_goals (try simp)
    rintro i e g' hi ⟨v, l, hp, hG, hll⟩
    refine T_pins hp fun e => ?_
    (try (simp (disch := first | omega | (simp <;> omega) | fail) only [push_cast, ↓reduceIte, Nat.reduceEqDiff, Nat.reduceAdd, Nat.reduceMul, Nat.reduceSub, Nat.reduceLT, Int.reduceToNat]))
    first | refine goC_split (fun hc => ?_) (fun hc => ?_) | refine cnd_split (fun hc => ?_) (fun hc => ?_)
    · (try (simp only [decide_eq_true_eq, decide_eq_false_iff_not, Bool.not_eq_true', Bool.not_eq_false', Bool.and_eq_true, Bool.or_eq_true, Int.not_lt, Int.not_le] at hc)); (try (simp (disch := first | omega | (simp <;> omega) | fail) only [push_cast, ↓reduceIte, Nat.reduceEqDiff, Nat.reduceAdd, Nat.reduceMul, Nat.reduceSub, Nat.reduceLT, Int.reduceToNat]))
      (try (simp (disch := first | omega | (simp <;> omega) | fail) only [push_cast, ↓reduceIte, Nat.reduceEqDiff, Nat.reduceAdd, Nat.reduceMul, Nat.reduceSub, Nat.reduceLT, Int.reduceToNat]))
      refine (c_spec_l1Clip w 8 (by omega)).use ?_
      rintro x ⟨wn, rfl, hwn⟩
      obtain ⟨T8, hT8⟩ : ∃ T : Int, T = ((2 ^ wn : Nat) : Int) := ⟨_, rfl⟩
      (try (simp (disch := first | omega | (simp <;> omega) | fail) only [push_cast, ↓reduceIte, Nat.reduceEqDiff, Nat.reduceAdd, Nat.reduceMul, Nat.reduceSub, Nat.reduceLT, Int.reduceToNat]))
      refine (c_spec_reTop wn (by omega) T8 hT8).call ?_
      (try (simp (disch := first | omega | (simp <;> omega) | fail) only [push_cast, ↓reduceIte, Nat.reduceEqDiff, Nat.reduceAdd, Nat.reduceMul, Nat.reduceSub, Nat.reduceLT, Int.reduceToNat]))
      refine (c_spec_l1Cur_pick8 b c _ g' wn hG.1.2.2 (by omega) (by omega) T8 hT8).mono (fun x g2 hx => ?_) (fun b' _ hb' => Or.inl hb')
      obtain ⟨⟨q, rfl⟩, hF2⟩ := hx
      have hG2 := hG.step hF2
      (try (simp (disch := first | omega | (simp <;> omega) | fail) only [push_cast, ↓reduceIte, Nat.reduceEqDiff, Nat.reduceAdd, Nat.reduceMul, Nat.reduceSub, Nat.reduceLT, Int.reduceToNat]))
      refine hG2.app (a := q) (by_ := 8) rfl (fun y hy => Or.inr hy) (by omega) fun v2 g4 hG4 => ?_
      (try (simp (disch := first | omega | (simp <;> omega) | fail) only [push_cast, ↓reduceIte, Nat.reduceEqDiff, Nat.reduceAdd, Nat.reduceMul, Nat.reduceSub, Nat.reduceLT, Int.reduceToNat]))
      all_goals (try exact ⟨_, _, rfl, hG4.mono (by omega), by simp [hll]⟩)
    · (try (simp only [decide_eq_true_eq, decide_eq_false_iff_not, Bool.not_eq_true', Bool.not_eq_false', Bool.and_eq_true, Bool.or_eq_true, Int.not_lt, Int.not_le] at hc)); (try (simp (disch := first | omega | (simp <;> omega) | fail) only [push_cast, ↓reduceIte, Nat.reduceEqDiff, Nat.reduceAdd, Nat.reduceMul, Nat.reduceSub, Nat.reduceLT, Int.reduceToNat]))
      (try (simp (disch := first | omega | (simp <;> omega) | fail) only [push_cast, ↓reduceIte, Nat.reduceEqDiff, Nat.reduceAdd, Nat.reduceMul, Nat.reduceSub, Nat.reduceLT, Int.reduceToNat]))
      all_goals (try exact t2 _ _ _ _ _ _ _ _ hks (by omega) (by omega) hG ⟨rfl, rfl, rfl, rfl, rfl, trivial⟩)
  (try (simp (disch := first | omega | (simp <;> omega) | fail) only [push_cast, ↓reduceIte, Nat.reduceEqDiff, Nat.reduceAdd, Nat.reduceMul, Nat.reduceSub, Nat.reduceLT, Int.reduceToNat]))
  refine (c_spec_l1Cur_seed9 b c K h hcu (by omega)).mono (fun x h1 hx => ?_) (fun b' _ hb' => Or.inl hb')
  obtain ⟨⟨sd, rfl, sd0, sd1⟩, hF1⟩ := hx
  (try (simp (disch := first | omega | (simp <;> omega) | fail) only [push_cast, ↓reduceIte, Nat.reduceEqDiff, Nat.reduceAdd, Nat.reduceMul, Nat.reduceSub, Nat.reduceLT, Int.reduceToNat]))
  refine ⟨rfl, ?_⟩
  have hM := (CurF.refl hF1.2.2).more (l := [some (AObj.cells (([3, 6, 10, 16] : List Int).map (.int .i64)))])
  refine (c_spec_l1Cur_among b c _ (h1 ++ [some (AObj.cells (([3, 6, 10, 16] : List Int).map (.int .i64)))]) h1.length [3, 6, 10, 16] hM.2.2 (by omega) (by decide) (by decide) (by rw [cells_h0]; rfl) (by have := hF1.2.2.lt; omega)).mono (fun x h2 hx => ?_) (fun b' _ hb' => Or.inl hb')
  obtain ⟨⟨m, rfl, hm⟩, hs2⟩ := hx
  have hm2 : 1 ≤ m ∧ m ≤ 16 := by
    simp at hm
    omega
  obtain ⟨mm, rfl⟩ : ∃ mm : Nat, m = (mm : Int) := ⟨m.toNat, by omega⟩
  have hF2 := (hF1.trans hM).trans hs2.f
  (try (simp (disch := first | omega | (simp <;> omega) | fail) only [push_cast, ↓reduceIte, Nat.reduceEqDiff, Nat.reduceAdd, Nat.reduceMul, Nat.reduceSub, Nat.reduceLT, Int.reduceToNat]))
  refine (c_spec_l1Cur_anyKeys b c _ h2 mm hF2.2.2 (by omega) (by omega) (by omega)).mono (fun x h3 hx => ?_) (fun b' _ hb' => Or.inl hb')
  obtain ⟨⟨ks, rfl, hks⟩, hF3⟩ := hx
  have hF4 := hF2.trans hF3
  (try (simp (disch := first | omega | (simp <;> omega) | fail) only [push_cast, ↓reduceIte, Nat.reduceEqDiff, Nat.reduceAdd, Nat.reduceMul, Nat.reduceSub, Nat.reduceLT, Int.reduceToNat]))
  refine ⟨rfl, ?_⟩
  have hM4 := (CurF.refl hF4.2.2).more (l := [some (AObj.cells (([1, 1, 2, 3, 4, 8] : List Int).map (.int .i64)))])
  refine (c_spec_l1Cur_among b c _ (h3 ++ [some (AObj.cells (([1, 1, 2, 3, 4, 8] : List Int).map (.int .i64)))]) h3.length [1, 1, 2, 3, 4, 8] hM4.2.2 (by omega) (by decide) (by decide) (by rw [cells_h0]; rfl) (by have := hF4.2.2.lt; omega)).mono (fun x h4 hx => ?_) (fun b' _ hb' => Or.inl hb')
  obtain ⟨⟨w, rfl, _⟩, hs4⟩ := hx
  have hF5 := (hF4.trans hM4).trans hs4.f
  (try (simp (disch := first | omega | (simp <;> omega) | fail) only [push_cast, ↓reduceIte, Nat.reduceEqDiff, Nat.reduceAdd, Nat.reduceMul, Nat.reduceSub, Nat.reduceLT, Int.reduceToNat]))
  refine (c_spec_l1Cur_one b c _ h4 14 hF5.2.2 (by omega) (by omega) (by omega)).mono (fun x h5 hx => ?_) (fun b' _ hb' => Or.inl hb')
  obtain ⟨⟨t, rfl⟩, hs5⟩ := hx
  have hF6 := hF5.trans hs5.f
  cases t
  · (try (simp (disch := first | omega | (simp <;> omega) | fail) only [push_cast, ↓reduceIte, Nat.reduceEqDiff, Nat.reduceAdd, Nat.reduceMul, Nat.reduceSub, Nat.reduceLT, Int.reduceToNat]))
    all_goals (try exact t1 _ _ _ _ _ _ hks (by omega) hF6 ⟨rfl, rfl, rfl, rfl, trivial⟩)
  · (try (simp (disch := first | omega | (simp <;> omega) | fail) only [push_cast, ↓reduceIte, Nat.reduceEqDiff, Nat.reduceAdd, Nat.reduceMul, Nat.reduceSub, Nat.reduceLT, Int.reduceToNat]))
    refine ⟨rfl, ?_⟩
    have hM6 := (CurF.refl hF6.2.2).more (l := [some (AObj.cells (([0, -1, 9, 62] : List Int).map (.int .i64)))])
    refine (c_spec_l1Cur_among b c _ (h5 ++ [some (AObj.cells (([0, -1, 9, 62] : List Int).map (.int .i64)))]) h5.length [0, -1, 9, 62] hM6.2.2 (by omega) (by decide) (by decide) (by rw [cells_h0]; rfl) (by have := hF6.2.2.lt; omega)).mono (fun x h6 hx => ?_) (fun b' _ hb' => Or.inl hb')
    obtain ⟨⟨w2, rfl, _⟩, hs6⟩ := hx
    have hF7 := (hF6.trans hM6).trans hs6.f
    (try (simp (disch := first | omega | (simp <;> omega) | fail) only [push_cast, ↓reduceIte, Nat.reduceEqDiff, Nat.reduceAdd, Nat.reduceMul, Nat.reduceSub, Nat.reduceLT, Int.reduceToNat]))
    all_goals (try exact t1 _ _ _ _ _ _ hks (by omega) hF7 ⟨rfl, rfl, rfl, rfl, trivial⟩)

theorem free_task {sd sg w : Int} {ks : Option (List Str)} {vs : Option (List Int)} : Free (.tup [.int .i64 sd, eS ks, eI vs, .int .i64 sg, .int .i64 w]) := free_tup (free_cons_ free_int (free_cons_ free_eS (free_cons_ free_eI (free_cons_ free_int (free_cons_ free_int free_nil_)))))
theorem c_spec_DrawTableRefusal (c : Option (List UInt8)) : Fn Tryz.prog 35 [eU c] TaskR := by
  refine Fn.froze_ fun h => ?_
  refine enter (by kernel_rfl) e35 (by kernel_rfl) rfl fun hok => ?_
  simp only [r35, initEnv_1]
  have hfb : fillA [.nils, .int .i64 0, .int .u64 0] [(0, 1, eU c)] = some [eU c, .int .i64 0, .int .u64 0] := by cases c <;> rfl
  have hcp : ∀ b', b' = h.length → Nowhere b' ∨ h.length ≤ b' := fun b' hb' => Or.inr (by omega)
  (try (simp (disch := first | omega | (simp <;> omega) | fail) only [push_cast, ↓reduceIte, Nat.reduceEqDiff, Nat.reduceAdd, Nat.reduceMul, Nat.reduceSub, Nat.reduceLT, Int.reduceToNat, hfb]))
  refine (c_spec_l1Cur_task h.length c 0 (h ++ [some (.cells [eU c, .int .i64 0, .int .u64 0])]) ⟨0, 0, by rw [cells_h0]; rfl, Nat.le_refl _⟩ (by omega)).mono (fun x g0 hx => ?_) (fun b' _ hb' => hcp b' hb')
  obtain ⟨⟨sd, ks, vs, sg, w, rfl, hk, hv⟩, hF⟩ := hx
  (try (simp (disch := first | omega | (simp <;> omega) | fail) only [push_cast, ↓reduceIte, Nat.reduceEqDiff, Nat.reduceAdd, Nat.reduceMul, Nat.reduceSub, Nat.reduceLT, Int.reduceToNat]))
  first | refine goC_split (fun hc => ?_) (fun hc => ?_) | refine cnd_split (fun hc => ?_) (fun hc => ?_)
  · (try (simp only [decide_eq_true_eq, decide_eq_false_iff_not, Bool.not_eq_true', Bool.not_eq_false', Bool.and_eq_true, Bool.or_eq_true, Int.not_lt, Int.not_le] at hc)); (try (simp (disch := first | omega | (simp <;> omega) | fail) only [push_cast, ↓reduceIte, Nat.reduceEqDiff, Nat.reduceAdd, Nat.reduceMul, Nat.reduceSub, Nat.reduceLT, Int.reduceToNat]))
    (try (simp (disch := first | omega | (simp <;> omega) | fail) only [push_cast, ↓reduceIte, Nat.reduceEqDiff, Nat.reduceAdd, Nat.reduceMul, Nat.reduceSub, Nat.reduceLT, Int.reduceToNat]))
    refine (c_spec_l1Cur_one h.length c _ g0 2 hF.2.2 (by omega) (by omega) (by omega)).mono (fun x g1 hx => ?_) (fun b' _ hb' => hcp b' hb')
    obtain ⟨⟨t, rfl⟩, hs⟩ := hx
    cases t
    · (try (simp (disch := first | omega | (simp <;> omega) | fail) only [push_cast, ↓reduceIte, Nat.reduceEqDiff, Nat.reduceAdd, Nat.reduceMul, Nat.reduceSub, Nat.reduceLT, Int.reduceToNat]))
      all_goals (try exact ⟨_, .free free_task, _, _, _, _, _, rfl, hk, hv⟩)
    · (try (simp (disch := first | omega | (simp <;> omega) | fail) only [push_cast, ↓reduceIte, Nat.reduceEqDiff, Nat.reduceAdd, Nat.reduceMul, Nat.reduceSub, Nat.reduceLT, Int.reduceToNat]))
      refine (c_spec_l1Cur_pick h.length c _ g1 2 hs.2.2 (by omega) (by omega) (by omega)).mono (fun x g2 hx => ?_) (fun b' _ hb' => hcp b' hb')
      obtain ⟨⟨q, rfl, q0, q1⟩, hs2⟩ := hx
      (try (simp (disch := first | omega | (simp <;> omega) | fail) only [push_cast, ↓reduceIte, Nat.reduceEqDiff, Nat.reduceAdd, Nat.reduceMul, Nat.reduceSub, Nat.reduceLT, Int.reduceToNat]))
      all_goals (try exact ⟨_, .free free_task, _, _, _, _, _, rfl, hk, hv⟩)
  · (try (simp only [decide_eq_true_eq, decide_eq_false_iff_not, Bool.not_eq_true', Bool.not_eq_false', Bool.and_eq_true, Bool.or_eq_true, Int.not_lt, Int.not_le] at hc)); (try (simp (disch := first | omega | (simp <;> omega) | fail) only [push_cast, ↓reduceIte, Nat.reduceEqDiff, Nat.reduceAdd, Nat.reduceMul, Nat.reduceSub, Nat.reduceLT, Int.reduceToNat]))
    (try (simp (disch := first | omega | (simp <;> omega) | fail) only [push_cast, ↓reduceIte, Nat.reduceEqDiff, Nat.reduceAdd, Nat.reduceMul, Nat.reduceSub, Nat.reduceLT, Int.reduceToNat]))
    all_goals (try exact ⟨_, .free free_task, _, _, _, _, _, rfl, hk, hv⟩)

end Go.Proofs.YtjfgmimgmapeeaaGreat.M
