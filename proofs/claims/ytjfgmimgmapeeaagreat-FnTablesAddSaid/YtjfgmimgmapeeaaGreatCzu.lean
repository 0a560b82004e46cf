/-
  What the functions return.
-/
import Derived.Test.YtjfgmimgmapeeaaGreatFzu
import Derived.Test.YtjfgmimgmapeeaaGreatCzk
namespace Go.Proofs.YtjfgmimgmapeeaaGreat.M
open Go Go.RowKit
set_option linter.unusedVariables false
set_option linter.unusedSimpArgs false
set_option maxRecDepth 4000

/-- A cut that may also return. -/
def CR (R : Env → H → Prop) (Q : Ex → Env → H → Prop) : Ex → Env → H → Prop
  | .normal => R
  | .exit _ => fun _ _ => False
  | .ret => Q .ret
theorem CR_n {R : Env → H → Prop} {Q : Ex → Env → H → Prop} {e : Env} {h : H} : CR R Q .normal e h = R e h := (rfl)
theorem CR_r {R : Env → H → Prop} {Q : Ex → Env → H → Prop} {e : Env} {h : H} : CR R Q .ret e h = Q .ret e h := (rfl)
theorem T_cutR {P : Program} {pm : Nat → Prop} {c : RCode} {Q : Ex → Env → H → Prop} {e : Env} {h : H} (R : Env → H → Prop) (h1 : T P pm c (K P pm [] (CR R Q)) e h) (h2 : ∀ e h, R e h → Q .normal e h) : T P pm c Q e h := by
  refine T_mono ?_ h1
  intro x e h hq
  cases x with
  | normal => exact h2 e h hq
  | exit i => exact hq.elim
  | ret => exact hq
--eng CR_n CR_r

attribute [push_cast] CR_n CR_r
theorem vw_tupL {h : H} {n : Nat} {cs ts : List AV} (hl : ts.length = cs.length) (hv : ∀ (i : Nat) (y t : AV), cs[i]? = some y → ts[i]? = some t → Vw h n y t) : Vw h n (.tup cs) (.tup ts) := .tup hl hv
theorem wr_two' {g : H} {n : Nat} {A B a b : List AV} (c0 : g.cells n = some a) (c1 : g.cells (n + 1) = some b) :
    H.cells (wr g n A) (n + 1) = some b ∧ H.cells (wr (wr g n A) (n + 1) B) n = some A ∧ H.cells (wr (wr g n A) (n + 1) B) (n + 1) = some B ∧ ∀ k, k ≠ n → k ≠ n + 1 → (wr (wr g n A) (n + 1) B)[k]? = g[k]? := by
  have l0 := cells_lt c0
  have l1 := cells_lt c1
  have h1 : ∀ (g : H) (n k : Nat) (cs : List AV), k ≠ n → (wr g n cs)[k]? = g[k]? := fun g n k cs hk => by
    unfold wr
    rw [List.getElem?_set_ne (Ne.symm hk)]
  exact ⟨cells_keep (h1 _ _ _ _ (by omega)) c1, cells_keep (h1 _ _ _ _ (by omega)) (cells_wr2 l0), cells_wr2 (by simp [wr]; omega), fun k hk hk1 => (h1 _ _ _ _ hk1).trans (h1 _ _ _ _ hk)⟩
def endC4 (Q : AV → H → Prop) (h : H) (y z w : AV) : Option AV → Prop
  | some x => Q (.tup [x, y, z, w]) h
  | none => False
theorem endC4_some {Q : AV → H → Prop} {h : H} {x y z w : AV} : endC4 Q h y z w (some x) = Q (.tup [x, y, z, w]) h := (rfl)
theorem Ends_cttt {n sz k l m : Nat} {ag : Bool} {Q : AV → H → Prop} {e : Env} {h : H} : Ends [.cell ag sz n, .t k, .t l, .t m] Q .ret e h = endC4 Q h (e k) (e l) (e m) (loadAdr h ag sz (e n)) := by
  have hE : Ends [.cell ag sz n, .t k, .t l, .t m] Q .ret e h = (match resV [.cell ag sz n, .t k, .t l, .t m] e h with | some x => Q x h | none => False) := rfl
  rw [hE]
  have hr : resV [.cell ag sz n, .t k, .t l, .t m] e h = (resOf e h (.cell ag sz n)).map fun x => .tup [x, e k, e l, e m] := by
    simp only [resV, List.mapM_cons, List.mapM_nil]
    have h1 : ∀ k, resOf e h (.t k) = some (e k) := fun _ => rfl
    rw [h1, h1, h1]
    cases resOf e h (.cell ag sz n) <;> rfl
  rw [hr, resOf_c]
  cases loadAdr h ag sz (e n) <;> rfl
--eng endC4_some Ends_cttt

attribute [push_cast] endC4_some Ends_cttt
theorem c_spec_DrawRetrieveValue (c : Option (List UInt8)) : Fn Tryz.prog 24 [eU c] (fun x => ∃ (a b w : Int) (o : Option (List Int)) (s : Str), x = .tup [eTab a b w o, .str s]) := by
  refine Fn.froze_ fun h => ?_
  refine enter (by kernel_rfl) e24 (by kernel_rfl) rfl fun hok => ?_
  simp only [r24, initEnv_1]
  have hfb : fillA [.nils, .int .i64 0, .int .u64 0] [(0, 1, eU c)] = some [eU c, .int .i64 0, .int .u64 0] := by cases c <;> rfl
  (try (simp (disch := first | omega | (simp <;> omega) | fail) only [push_cast, ↓reduceIte, Nat.reduceEqDiff, Nat.reduceAdd, Nat.reduceMul, Nat.reduceSub, Nat.reduceLT, Int.reduceToNat, hfb]))
  refine (c_spec_l1Cur_table (h.length + 1) c 0 (h ++ [some (.cells [.int .i64 0, .int .i64 0, .int .i64 0, .nils]), some (.cells [eU c, .int .i64 0, .int .u64 0])]) ⟨0, 0, by rw [cells_hk]; rfl, Nat.le_refl _⟩ (by omega)).mono (fun x g0 hx => ?_) (fun b' _ hb' => Or.inr (Nat.le_trans (Nat.le_succ _) (Nat.le_of_eq hb'.symm)))
  obtain ⟨⟨a, b, w, o, rfl, hol⟩, hF⟩ := hx
  unfold eTab
  (try (simp (disch := first | omega | (simp <;> omega) | fail) only [push_cast, ↓reduceIte, Nat.reduceEqDiff, Nat.reduceAdd, Nat.reduceMul, Nat.reduceSub, Nat.reduceLT, Int.reduceToNat]))
  refine (c_spec_l1Cur_text (h.length + 1) c _ g0 hF.2.2 (by omega)).mono (fun x g1 hx => ?_) (fun b' _ hb' => Or.inr (Nat.le_trans (Nat.le_succ _) (Nat.le_of_eq hb'.symm)))
  obtain ⟨⟨s, rfl, hsl⟩, hF2⟩ := hx
  have c0 : g1.cells h.length = some [.int .i64 0, .int .i64 0, .int .i64 0, .nils] := (hF.trans hF2).cells (k := h.length) (by rw [cells_h0]; rfl) (by omega)
  have hw := cells_wr2 (cells_lt c0) (cs := [AV.int .i64 a, .int .i64 b, .int .i64 w, eI o])
  have hpm : (h.length ≤ h.length) = True := by simp
  (try (simp (disch := first | omega | (simp <;> omega) | fail) only [push_cast, ↓reduceIte, Nat.reduceEqDiff, Nat.reduceAdd, Nat.reduceMul, Nat.reduceSub, Nat.reduceLT, Int.reduceToNat, c0, hpm, hw]))
  all_goals (try exact ⟨_, .free (free_tup (free_cons_ free_eTab (free_cons_ free_str free_nil_))), a, b, w, o, s, rfl⟩)

set_option maxHeartbeats 4000000 in
theorem c_spec_DrawChangeValue (c : Option (List UInt8)) : Fn Tryz.prog 27 [eU c] (fun x => ∃ (a b w : Int) (o : Option (List Int)) (ks : Option (List Str)) (i v : Int), x = .tup [eTab a b w o, eS ks, .int .i64 i, .int .i64 v]) := by
  refine Fn.froze_ fun h => ?_
  refine enter (by kernel_rfl) e27 (by kernel_rfl) rfl fun hok => ?_
  simp only [r27, initEnv_1]
  have hfb : fillA [.nils, .int .i64 0, .int .u64 0] [(0, 1, eU c)] = some [eU c, .int .i64 0, .int .u64 0] := by cases c <;> rfl
  have hcp : ∀ b', b' = h.length + 1 → Nowhere b' ∨ h.length ≤ b' := fun b' hb' => Or.inr (by omega)
  (try (simp (disch := first | omega | (simp <;> omega) | fail) only [push_cast, ↓reduceIte, Nat.reduceEqDiff, Nat.reduceAdd, Nat.reduceMul, Nat.reduceSub, Nat.reduceLT, Int.reduceToNat, hfb]))
  refine (c_spec_l1Cur_anyKeys (h.length + 1) c 0 (h ++ [some (.cells [.int .i64 0, .int .i64 0, .int .i64 0, .nils]), some (.cells [eU c, .int .i64 0, .int .u64 0])]) 6 ⟨0, 0, by rw [cells_hk]; rfl, Nat.le_refl _⟩ (by omega) (by omega) (by omega)).mono (fun x g0 hx => ?_) (fun b' _ hb' => hcp b' hb')
  obtain ⟨⟨ks, rfl, hkl⟩, hF⟩ := hx
  (try (simp (disch := first | omega | (simp <;> omega) | fail) only [push_cast, ↓reduceIte, Nat.reduceEqDiff, Nat.reduceAdd, Nat.reduceMul, Nat.reduceSub, Nat.reduceLT, Int.reduceToNat]))
  refine (c_spec_l1Cur_table (h.length + 1) c _ g0 hF.2.2 (by omega)).mono (fun x g1 hx => ?_) (fun b' _ hb' => hcp b' hb')
  obtain ⟨⟨a, b, w, o, rfl, hol⟩, hF1⟩ := hx
  unfold eTab
  (try (simp (disch := first | omega | (simp <;> omega) | fail) only [push_cast, ↓reduceIte, Nat.reduceEqDiff, Nat.reduceAdd, Nat.reduceMul, Nat.reduceSub, Nat.reduceLT, Int.reduceToNat]))
  refine (c_spec_l1Cur_place (h.length + 1) c _ g1 (lS ks).length hF1.2.2 (by omega) (by omega)).mono (fun x g2 hx => ?_) (fun b' _ hb' => hcp b' hb')
  obtain ⟨⟨i, rfl, i0, i1⟩, hs2⟩ := hx
  (try (simp (disch := first | omega | (simp <;> omega) | fail) only [push_cast, ↓reduceIte, Nat.reduceEqDiff, Nat.reduceAdd, Nat.reduceMul, Nat.reduceSub, Nat.reduceLT, Int.reduceToNat]))
  refine ⟨rfl, ?_⟩
  have hF2 := (hF.trans hF1).trans hs2.f
  have hM := (CurF.refl hs2.2.2).more (l := [some (AObj.cells (([0, 1, 1, 2, 3, 7, 15, 16, -1] : List Int).map (.int .i64)))])
  have hl2 := hs2.2.2.lt
  refine (c_spec_l1Cur_among (h.length + 1) c _ (g2 ++ [some (AObj.cells (([0, 1, 1, 2, 3, 7, 15, 16, -1] : List Int).map (.int .i64)))]) g2.length [0, 1, 1, 2, 3, 7, 15, 16, -1] hM.2.2 (by omega) (by decide) (by decide) (by rw [cells_h0]; rfl) (by omega)).mono (fun x g3 hx => ?_) (fun b' _ hb' => hcp b' hb')
  obtain ⟨⟨v, rfl, _⟩, hs3⟩ := hx
  have c0 : g3.cells h.length = some [.int .i64 0, .int .i64 0, .int .i64 0, .nils] := ((hF2.trans hM).trans hs3.f).cells (k := h.length) (by rw [cells_h0]; rfl) (by omega)
  have hw := cells_wr2 (cells_lt c0) (cs := [AV.int .i64 a, .int .i64 b, .int .i64 w, eI o])
  have hpm : (h.length ≤ h.length) = True := by simp
  (try (simp (disch := first | omega | (simp <;> omega) | fail) only [push_cast, ↓reduceIte, Nat.reduceEqDiff, Nat.reduceAdd, Nat.reduceMul, Nat.reduceSub, Nat.reduceLT, Int.reduceToNat, c0, hpm, hw]))
  all_goals (try exact ⟨_, .free (free_tup (free_cons_ free_eTab (free_cons_ free_eS (free_cons_ free_int (free_cons_ free_int free_nil_))))), a, b, w, o, ks, i, v, rfl⟩)

/-- A second table that is drawn, in a box that was laid last. -/
def TbB (h g : H) (b : Nat) (c : Option (List UInt8)) (K b6 : Nat) (sd sg wd : Int) (v : AV) (l : List Int) : Prop :=
  b < h.length ∧ h.length ≤ b6 ∧ CurF h g b c K ∧ g.cells b6 = some [.int .i64 sd, .int .i64 sg, .int .i64 wd, v] ∧ ∃ Bv, S1 g 1 v l.length (l.map (.int .i64)) Bv ∧ ∀ k ∈ Bv, h.length ≤ k ∧ k ≠ b6
theorem TbB.keep {h g g2 : H} {b K K' b6 : Nat} {c : Option (List UInt8)} {sd sg wd : Int} {v : AV} {l : List Int} (hp : TbB h g b c K b6 sd sg wd v l) (hF : CurF g g2 b c K') : TbB h g2 b c K' b6 sd sg wd v l := by
  obtain ⟨p1, p2, p3, p6, Bv, p7, p8⟩ := hp
  exact ⟨p1, p2, p3.trans hF, hF.cells p6 (by omega), Bv, p7.frame fun k hk => hF.2.1 k (p7.lt k hk) (by have := (p8 k hk).1; omega), p8⟩
theorem TbB.app {h g : H} {b K b6 : Nat} {c : Option (List UInt8)} {sd sg wd q : Int} {v : AV} {l : List Int} {pm : Nat → Prop} {Q : AV → H → Prop} (hp : TbB h g b c K b6 sd sg wd v l) (hpm : ∀ k, h.length ≤ k → pm k) (hN : l.length ≤ 1000000)
    (hQ : ∀ v' g2, TbB h (wr g2 b6 [.int .i64 sd, .int .i64 sg, .int .i64 wd, v']) b c K b6 sd sg wd v' (l ++ [q]) → g2.cells b6 = some [.int .i64 sd, .int .i64 sg, .int .i64 wd, v] → b6 < g2.length → one v' = true → cellsOf v' = [v'] → Q v' g2) : apA pm (g ++ [some (.cells [.int .i64 q])]) Q 1 8 (some ([.int .i64 q], 1)) v := by
  obtain ⟨p1, p2, p3, p6, Bv, p7, p8⟩ := hp
  have l3 := cells_lt p6
  have l1 := p3.1
  refine (p7.frame (h' := g ++ _) fun k hk => List.getElem?_append_left (p7.lt k hk)).app0 (new := [.int .i64 q]) (k := 1) (by_ := 8) (fun k hk => hpm k (p8 k hk).1) rfl (by omega) fun w2 g2 B2 a1 a2 a3 a4 a5 => ?_
  simp only [List.length_append, List.length_cons, List.length_nil] at a2 a3 a4
  have hk2 : ∀ k, k < g.length → k ∉ Bv → g2[k]? = g[k]? := fun k hk hn => (a3 k (by omega) hn).trans (List.getElem?_append_left hk)
  have hn3 : b6 ∉ Bv := fun hb => (p8 _ hb).2 rfl
  have hnl : ∀ k, k < h.length → k ∉ Bv := fun k hk hb => by have := (p8 _ hb).1; omega
  have hwk : ∀ k, k ≠ b6 → (wr g2 b6 [.int .i64 sd, .int .i64 sg, .int .i64 wd, w2])[k]? = g2[k]? := fun k hk => by
    unfold wr
    rw [List.getElem?_set_ne (Ne.symm hk)]
  have hB2 : ∀ k ∈ B2, h.length ≤ k ∧ k ≠ b6 := fun k hk => by
    rcases a4 k hk with h5 | h5
    · exact p8 k h5
    · exact ⟨by omega, by omega⟩
  have ho := a1.one_
  refine hQ w2 g2 ⟨p1, p2, ⟨by simp [wr]; omega, fun k hk hn => (hwk _ (by omega)).trans ((hk2 _ (by omega) (hnl _ hk)).trans (p3.2.1 k hk hn)), p3.2.2.frame ((hwk _ (by omega)).trans (hk2 _ (by omega) (hnl _ p1)))⟩, cells_wr2 (by omega), B2, ?_, hB2⟩ (cells_keep (hk2 _ l3 hn3) p6) (by omega) ho.1 ho.2
  have := a1.frame (h' := wr g2 b6 [.int .i64 sd, .int .i64 sg, .int .i64 wd, w2]) fun k hk => hwk k (hB2 k hk).2
  simpa using this

set_option maxHeartbeats 4000000 in
theorem c_spec_DrawAddTables (c : Option (List UInt8)) : Fn Tryz.prog 20 [eU c] (fun x => ∃ (a b w : Int) (o : Option (List Int)) (a2 b2 w2 : Int) (o2 : Option (List Int)), x = .tup [eTab a b w o, eTab a2 b2 w2 o2]) := by
  refine Fn.froze_ fun h => ?_
  refine enter (by kernel_rfl) e20 (by kernel_rfl) rfl fun hok => ?_
  simp only [r20, initEnv_1]
  have hfb : fillA [.nils, .int .i64 0, .int .u64 0] [(0, 1, eU c)] = some [eU c, .int .i64 0, .int .u64 0] := by cases c <;> rfl
  have hcp : ∀ b', b' = h.length + 2 → Nowhere b' ∨ h.length ≤ b' := fun b' hb' => Or.inr (by omega)
  have hpm : (h.length ≤ h.length) = True := by simp
  have hpm1 : (h.length ≤ h.length + 1) = True := by simp
  (try (simp (disch := first | omega | (simp <;> omega) | fail) only [push_cast, ↓reduceIte, Nat.reduceEqDiff, Nat.reduceAdd, Nat.reduceMul, Nat.reduceSub, Nat.reduceLT, Int.reduceToNat, hfb]))
  refine (c_spec_l1Cur_table (h.length + 2) c 0 (h ++ [some (.cells [.int .i64 0, .int .i64 0, .int .i64 0, .nils]), some (.cells [.int .i64 0, .int .i64 0, .int .i64 0, .nils]), some (.cells [eU c, .int .i64 0, .int .u64 0])]) ⟨0, 0, by rw [cells_hk]; rfl, Nat.le_refl _⟩ (by omega)).mono (fun x g0 hx => ?_) (fun b' _ hb' => hcp b' hb')
  obtain ⟨⟨a, bb, w, o, rfl, hol⟩, hF⟩ := hx
  unfold eTab
  have hl0 := hF.1
  simp only [List.length_append, List.length_cons, List.length_nil] at hl0
  have c0' : H.cells (g0 ++ [some (.cells [.int .i64 a, .int .i64 bb, .int .i64 w, eI o])]) h.length = some [.int .i64 0, .int .i64 0, .int .i64 0, .nils] := cells_app (hF.cells (k := h.length) (by rw [cells_h0]; rfl) (by omega))
  have c1' : H.cells (g0 ++ [some (.cells [.int .i64 a, .int .i64 bb, .int .i64 w, eI o])]) (h.length + 1) = some [.int .i64 0, .int .i64 0, .int .i64 0, .nils] := cells_app (hF.cells (k := h.length + 1) (by rw [cells_hk]; rfl) (by omega))
  have c5' : H.cells (g0 ++ [some (.cells [.int .i64 a, .int .i64 bb, .int .i64 w, eI o])]) g0.length = some [.int .i64 a, .int .i64 bb, .int .i64 w, eI o] := by rw [cells_h0]; rfl
  have hcu : CurI (g0 ++ [some (.cells [.int .i64 a, .int .i64 bb, .int .i64 w, eI o])]) (h.length + 2) c (0 + 100) := hF.2.2.frame (List.getElem?_append_left hF.2.2.lt)
  have hb5 : h.length ≤ g0.length := by omega
  have hb53 : h.length + 3 ≤ g0.length := by omega
  clear hF hl0
  (try (simp (disch := first | omega | (simp <;> omega) | fail) only [push_cast, ↓reduceIte, Nat.reduceEqDiff, Nat.reduceAdd, Nat.reduceMul, Nat.reduceSub, Nat.reduceLT, Int.reduceToNat]))
  generalize g0 ++ [some (.cells [.int .i64 a, .int .i64 bb, .int .i64 w, eI o])] = g at *
  generalize g0.length = b5 at *
  refine (c_spec_l1Cur_one (h.length + 2) c _ g 5 hcu (by omega) (by omega) (by omega)).mono (fun x g1 hx => ?_) (fun b' _ hb' => hcp b' hb')
  obtain ⟨⟨t, rfl⟩, hs1⟩ := hx
  have hF1 := hs1.f
  have c5 := hF1.cells c5' (by omega)
  have c0 := hF1.cells c0' (by omega)
  have c1 := hF1.cells c1' (by omega)
  cases t
  case true =>
      (try (simp (disch := first | omega | (simp <;> omega) | fail) only [push_cast, ↓reduceIte, Nat.reduceEqDiff, Nat.reduceAdd, Nat.reduceMul, Nat.reduceSub, Nat.reduceLT, Int.reduceToNat, c5, reads, List.mem_cons, List.mem_append, List.not_mem_nil, nat_ff, or_self, or_false, false_or, not_false_eq_true]))
      repeat' (with_reducible refine And.intro ?_ ?_)
      all_goals
        refine (c_spec_l1Cur_table (h.length + 2) c _ g1 hF1.2.2 (by omega)).mono (fun x g2 hx => ?_) (fun b' _ hb' => hcp b' hb')
        obtain ⟨⟨a2, b2, w2, o2, rfl, _⟩, hF2⟩ := hx
        unfold eTab
        have c52 := hF2.cells c5 (by omega)
        have c02 := hF2.cells c0 (by omega)
        have c12 := hF2.cells c1 (by omega)
        obtain ⟨w1, w2', w3, w4⟩ := wr_two' (A := [.int .i64 a, .int .i64 bb, .int .i64 w, eI o]) (B := [.int .i64 a2, .int .i64 b2, .int .i64 w2, eI o2]) c02 c12
        (try (simp (disch := first | omega | (simp <;> omega) | fail) only [push_cast, ↓reduceIte, Nat.reduceEqDiff, Nat.reduceAdd, Nat.reduceMul, Nat.reduceSub, Nat.reduceLT, Int.reduceToNat, c52, c02, hpm, hpm1, w1, w2', w3, reads, List.mem_cons, List.mem_append, List.not_mem_nil, nat_ff, or_self, or_false, false_or, not_false_eq_true]))
        all_goals (try exact ⟨_, .free (free_tup (free_cons_ free_eTab (free_cons_ free_eTab free_nil_))), a, bb, w, o, a2, b2, w2, o2, rfl⟩)
  (try (simp (disch := first | omega | (simp <;> omega) | fail) only [push_cast, ↓reduceIte, Nat.reduceEqDiff, Nat.reduceAdd, Nat.reduceMul, Nat.reduceSub, Nat.reduceLT, Int.reduceToNat, c5]))
  refine (c_spec_reTable a bb w o).call ?_
  cases hk : tblOk a bb w o
  case false =>
      (try (simp (disch := first | omega | (simp <;> omega) | fail) only [push_cast, ↓reduceIte, Nat.reduceEqDiff, Nat.reduceAdd, Nat.reduceMul, Nat.reduceSub, Nat.reduceLT, Int.reduceToNat, c5, reads, List.mem_cons, List.mem_append, List.not_mem_nil, nat_ff, or_self, or_false, false_or, not_false_eq_true]))
      repeat' (with_reducible refine And.intro ?_ ?_)
      all_goals
        refine (c_spec_l1Cur_table (h.length + 2) c _ g1 hF1.2.2 (by omega)).mono (fun x g2 hx => ?_) (fun b' _ hb' => hcp b' hb')
        obtain ⟨⟨a2, b2, w2, o2, rfl, _⟩, hF2⟩ := hx
        unfold eTab
        have c52 := hF2.cells c5 (by omega)
        have c02 := hF2.cells c0 (by omega)
        have c12 := hF2.cells c1 (by omega)
        obtain ⟨w1, w2', w3, w4⟩ := wr_two' (A := [.int .i64 a, .int .i64 bb, .int .i64 w, eI o]) (B := [.int .i64 a2, .int .i64 b2, .int .i64 w2, eI o2]) c02 c12
        (try (simp (disch := first | omega | (simp <;> omega) | fail) only [push_cast, ↓reduceIte, Nat.reduceEqDiff, Nat.reduceAdd, Nat.reduceMul, Nat.reduceSub, Nat.reduceLT, Int.reduceToNat, c52, c02, hpm, hpm1, w1, w2', w3, reads, List.mem_cons, List.mem_append, List.not_mem_nil, nat_ff, or_self, or_false, false_or, not_false_eq_true]))
        all_goals (try exact ⟨_, .free (free_tup (free_cons_ free_eTab (free_cons_ free_eTab free_nil_))), a, bb, w, o, a2, b2, w2, o2, rfl⟩)
  have F := tbl_facts hk
  obtain ⟨nw, hnw⟩ : ∃ nw : Nat, w = (nw : Int) := ⟨w.toNat, by have := F.w0; omega⟩
  subst hnw
  obtain ⟨T, hTT⟩ : ∃ T : Int, T = ((2 ^ nw : Nat) : Int) := ⟨_, rfl⟩
  have hTb : 2 ≤ T ∧ T ≤ 256 := by
    have h1 := F.w0
    have h2 := F.w1
    have h4 : nw = 1 ∨ nw = 2 ∨ nw = 3 ∨ nw = 4 ∨ nw = 5 ∨ nw = 6 ∨ nw = 7 ∨ nw = 8 := by omega
    rcases h4 with rfl | rfl | rfl | rfl | rfl | rfl | rfl | rfl <;> (rw [hTT]; decide)
  have hcl1 := hF1.2.2.lt
  have hl5 := cells_lt c5
  have hB0 : TbB g1 (g1 ++ [some (.cells [.int .i64 a, .int .i64 bb, .int .i64 nw, .nils])]) (h.length + 2) c (0 + 100 + 1) g1.length a bb nw .nils [] :=
    ⟨hcl1, Nat.le_refl _, (CurF.refl hF1.2.2).more, by rw [cells_h0]; rfl, [], S1.nil, by simp⟩
  have h6 : h.length ≤ g1.length := by omega
  (try (simp (disch := first | omega | (simp <;> omega) | fail) only [push_cast, ↓reduceIte, Nat.reduceEqDiff, Nat.reduceAdd, Nat.reduceMul, Nat.reduceSub, Nat.reduceLT, Int.reduceToNat, c5]))
  generalize g1 ++ [some (.cells [.int .i64 a, .int .i64 bb, .int .i64 nw, .nils])] = g2 at *
  generalize hb6 : g1.length = b6 at *
  have c52 := hB0.2.2.1.cells c5 (by omega)
  (try (simp (disch := first | omega | (simp <;> omega) | fail) only [push_cast, ↓reduceIte, Nat.reduceEqDiff, Nat.reduceAdd, Nat.reduceMul, Nat.reduceSub, Nat.reduceLT, Int.reduceToNat, c52]))
  refine T_for (lI o).length (fun i e g => ∃ v l, Pins e [(2, .adr h.length 0), (3, .adr (h.length + 1) 0), (4, .adr (h.length + 2) 0), (5, .adr b5 0), (6, .adr b6 0), (31, .int .i64 (lI o).length), (32, .int .i64 i)] ∧ TbB g1 g (h.length + 2) c (0 + 100 + 1 + 2 * i) b6 a bb nw v l ∧ l.length = i) ?_ ?_
  · refine ⟨.nils, [], ?_, hB0, rfl⟩
    (try (simp (disch := first | omega | (simp <;> omega) | fail) only [push_cast, ↓reduceIte, Nat.reduceEqDiff, Nat.reduceAdd, Nat.reduceMul, Nat.reduceSub, Nat.reduceLT, Int.reduceToNat]))
    all_goals (try simp)
  rintro i e g3 hi ⟨v, l, hp, hB, hll⟩
  refine T_pins hp fun e => ?_
  have c53 := hB.2.2.1.cells c5 (by omega)
  have c63 := hB.2.2.2.1
  (try (simp (disch := first | omega | (simp <;> omega) | fail) only [push_cast, ↓reduceIte, Nat.reduceEqDiff, Nat.reduceAdd, Nat.reduceMul, Nat.reduceSub, Nat.reduceLT, Int.reduceToNat]))
  first | refine goC_split (fun hc => ?_) (fun hc => ?_) | refine cnd_split (fun hc => ?_) (fun hc => ?_)
  · (try (simp only [decide_eq_true_eq, decide_eq_false_iff_not, Bool.not_eq_true', Bool.not_eq_false', Bool.and_eq_true, Bool.or_eq_true, Int.not_lt, Int.not_le] at hc)); (try (simp (disch := first | omega | (simp <;> omega) | fail) only [push_cast, ↓reduceIte, Nat.reduceEqDiff, Nat.reduceAdd, Nat.reduceMul, Nat.reduceSub, Nat.reduceLT, Int.reduceToNat]))
    (try (simp (disch := first | omega | (simp <;> omega) | fail) only [push_cast, ↓reduceIte, Nat.reduceEqDiff, Nat.reduceAdd, Nat.reduceMul, Nat.reduceSub, Nat.reduceLT, Int.reduceToNat, c53, c63, reads, List.mem_cons, List.mem_append, List.not_mem_nil, nat_ff, or_self, or_false, false_or, not_false_eq_true]))
    repeat' (with_reducible refine And.intro ?_ ?_)
    all_goals
      refine (c_spec_reTop nw (by have := F.w1; omega) T hTT).call ?_
      (try (simp (disch := first | omega | (simp <;> omega) | fail) only [push_cast, ↓reduceIte, Nat.reduceEqDiff, Nat.reduceAdd, Nat.reduceMul, Nat.reduceSub, Nat.reduceLT, Int.reduceToNat, c53, c63, reads, List.mem_cons, List.mem_append, List.not_mem_nil, nat_ff, or_self, or_false, false_or, not_false_eq_true]))
      repeat' (with_reducible refine And.intro ?_ ?_)
    all_goals
      refine (c_spec_l1Cur_pickN (h.length + 2) c _ g3 T hB.2.2.1.2.2 (by omega) (by omega) (by omega)).mono (fun x g4 hx => ?_) (fun b' _ hb' => hcp b' hb')
      obtain ⟨⟨q, rfl, q0, q1⟩, hs⟩ := hx
      have hB4 := hB.keep hs.f
      have c64 := hB4.2.2.2.1
      have c65 : ∀ l' : H, H.cells (g4 ++ l') b6 = some [.int .i64 a, .int .i64 bb, .int .i64 nw, v] := fun l' => cells_app c64
      (try (simp (disch := first | omega | (simp <;> omega) | fail) only [push_cast, ↓reduceIte, Nat.reduceEqDiff, Nat.reduceAdd, Nat.reduceMul, Nat.reduceSub, Nat.reduceLT, Int.reduceToNat, c64, c65, reads, List.mem_cons, List.mem_append, List.not_mem_nil, nat_ff, or_self, or_false, false_or, not_false_eq_true]))
      repeat' (with_reducible refine And.intro ?_ ?_)
    all_goals
      refine hB4.app (fun k hk => Or.inr (by omega)) (by omega) fun v2 g5 hB5 c66 l6 o1 o2 => ?_
      (try (simp (disch := first | omega | (simp <;> omega) | fail) only [push_cast, ↓reduceIte, Nat.reduceEqDiff, Nat.reduceAdd, Nat.reduceMul, Nat.reduceSub, Nat.reduceLT, Int.reduceToNat, c66, o1, o2, reads, List.mem_cons, List.mem_append, List.not_mem_nil, nat_ff, or_self, or_false, false_or, not_false_eq_true]))
      all_goals (try exact ⟨v2, _, hB5, by simp [hll]⟩)
      all_goals (try exact ⟨v2, _, rfl, hB5, by simp [hll]⟩)
  · (try (simp only [decide_eq_true_eq, decide_eq_false_iff_not, Bool.not_eq_true', Bool.not_eq_false', Bool.and_eq_true, Bool.or_eq_true, Int.not_lt, Int.not_le] at hc)); (try (simp (disch := first | omega | (simp <;> omega) | fail) only [push_cast, ↓reduceIte, Nat.reduceEqDiff, Nat.reduceAdd, Nat.reduceMul, Nat.reduceSub, Nat.reduceLT, Int.reduceToNat]))
    have c03 := hB.2.2.1.cells c0 (by omega)
    have c13 := hB.2.2.1.cells c1 (by omega)
    obtain ⟨w1, w2', w3, w4⟩ := wr_two' (A := [.int .i64 a, .int .i64 bb, .int .i64 nw, eI o]) (B := [.int .i64 a, .int .i64 bb, .int .i64 nw, v]) c03 c13
    obtain ⟨_, _, _, _, Bv, p7, p8⟩ := id hB
    have ho := p7.one_
    have w5 : H.cells (wr g3 h.length [.int .i64 a, .int .i64 bb, .int .i64 nw, eI o]) b6 = some [.int .i64 a, .int .i64 bb, .int .i64 nw, v] := cells_keep (by unfold wr; rw [List.getElem?_set_ne (by omega)]) c63
    obtain ⟨o2, hv2, _⟩ := (p7.frame (h' := wr (wr g3 h.length [.int .i64 a, .int .i64 bb, .int .i64 nw, eI o]) (h.length + 1) [.int .i64 a, .int .i64 bb, .int .i64 nw, v]) fun k hk => w4 k (by have := (p8 k hk).1; omega) (by have := (p8 k hk).1; omega)).vwInt0 (n0 := h.length) fun k hk => by have := (p8 k hk).1; omega
    have hfin : ∃ t, Vw (wr (wr g3 h.length [.int .i64 a, .int .i64 bb, .int .i64 nw, eI o]) (h.length + 1) [.int .i64 a, .int .i64 bb, .int .i64 nw, v]) h.length (.tup [.agg [.int .i64 a, .int .i64 bb, .int .i64 nw, eI o], .agg [.int .i64 a, .int .i64 bb, .int .i64 nw, v]]) t ∧ ∃ (a b w : Int) (o : Option (List Int)) (a2 b2 w2 : Int) (o2 : Option (List Int)), t = .tup [eTab a b w o, eTab a2 b2 w2 o2] := by
      refine ⟨.tup [eTab a bb nw o, eTab a bb nw o2], .tup rfl fun j y t hy ht => ?_, a, bb, nw, o, a, bb, nw, o2, rfl⟩
      rcases j with _ | _ | j
      · simp at hy ht
        subst hy ht
        exact .free free_eTab
      · simp at hy ht
        subst hy ht
        refine .agg rfl fun j y t hy ht => ?_
        rcases j with _ | _ | _ | _ | j
        · simp at hy ht
          subst hy ht
          exact .free free_int
        · simp at hy ht
          subst hy ht
          exact .free free_int
        · simp at hy ht
          subst hy ht
          exact .free free_int
        · simp at hy ht
          subst hy ht
          exact hv2
        · simp at hy
      · simp at hy
    (try (simp (disch := first | omega | (simp <;> omega) | fail) only [push_cast, ↓reduceIte, Nat.reduceEqDiff, Nat.reduceAdd, Nat.reduceMul, Nat.reduceSub, Nat.reduceLT, Int.reduceToNat, c53, c63, c03, hpm, hpm1, w1, w2', w3, w5, ho.1, ho.2, reads, List.mem_cons, List.mem_append, List.not_mem_nil, nat_ff, or_self, or_false, false_or, not_false_eq_true]))
    repeat' (with_reducible refine And.intro ?_ ?_)
    all_goals (try exact hfin)

end Go.Proofs.YtjfgmimgmapeeaaGreat.M
