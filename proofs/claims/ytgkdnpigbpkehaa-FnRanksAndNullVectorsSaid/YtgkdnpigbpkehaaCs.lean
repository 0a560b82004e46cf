/-
  What the functions return.
-/
import Derived.Test.YtgkdnpigbpkehaaFs
import Derived.Test.YtgkdnpigbpkehaaCd
namespace Go.Proofs.Ytgkdnpigbpkehaa.M
open Go Go.RowKit
set_option linter.unusedVariables false
set_option linter.unusedSimpArgs false
set_option maxRecDepth 4000

theorem ow_atoms_eq {h : H} : ∀ {ts cs : List AV} {G : Nat → Prop}, Ow h cs ts G → (∀ t ∈ ts, M.atom t = true) → cs = ts
  | [], cs, G, ho, _ => List.eq_nil_of_length_eq_zero ho.len.symm
  | t :: ts, [], G, ho, _ => by cases ho
  | t :: ts, x :: cs, G, ho, ha => by
    obtain ⟨F, F', f1, f2, _, _⟩ := ho.uncons
    rw [f1.atomOf (ha t (by simp)), ow_atoms_eq f2 fun u hu => ha u (by simp [hu])]
/-- Bits that came back, as they lie. -/
theorem ow_bits2 {h : H} {x : AV} {n : Int} {ws : List Int} {G : Nat → Prop} (ho : Ow h [x] [eB ⟨n, some ws⟩] G) : ∃ b, x = .agg [.int .i64 n, .sl b 0 1 ws.length ws.length] ∧ G b ∧ h.cells b = some (ws.map (.int .i64)) := by
  obtain ⟨b, rfl, h1⟩ := ow_bits ho
  obtain ⟨F, F', f1, f2, _, f4⟩ := h1.uncons
  obtain ⟨b2, cs, F2, he, hc, hcl, hbn, hF, hin, hre⟩ := (show Ow h [.sl b 0 1 ws.length ws.length] [.ro 1 (ws.map (.int .i64)) ws.length] F' from f2).open_
  injection he with he
  subst he
  refine ⟨b, rfl, (f4 _ hbn).1, ?_⟩
  rw [hc, ow_atoms_eq hin (by simp [M.atom])]

/-- A system being drawn: its box b3 with two slices that grow. -/
def SyD (h h' : H) (b : Nat) (c : Option (List UInt8)) (K b3 N : Nat) (P : Int → Bt → Prop) : Prop :=
  b < h.length ∧ h.length + 1 ≤ b3 ∧ CurI h' b c K ∧ h'.cells h.length = some [.int .i64 0, .nils, .nils] ∧ (∀ k, k < h.length → k ≠ b → h'[k]? = h[k]?) ∧
  ∃ (n : Int) (v w : AV) (R : List Bt) (L : List Bool) (G : Nat → Prop) (Bw : List Nat), h'.cells b3 = some [.int .i64 n, v, w] ∧ -1 ≤ n ∧ n ≤ 73 ∧ R.length ≤ N ∧ L.length ≤ N ∧
    OwG h' G 2 v R.length (R.flatMap cB) ∧ (∀ k, G k → h.length + 1 ≤ k ∧ k < h'.length ∧ k ≠ b3 ∧ k ∉ Bw) ∧ S1 h' 1 w L.length (L.map .bool) Bw ∧ (∀ k ∈ Bw, h.length + 1 ≤ k ∧ k ≠ b3) ∧ ∀ r ∈ R, P n r
/-- What is kept when only the cursor moves, or blocks come. -/
theorem SyD.keep {h g g2 : H} {b K K' b3 N : Nat} {c : Option (List UInt8)} {P : Int → Bt → Prop} (hp : SyD h g b c K b3 N P) (hl : g.length ≤ g2.length) (hk : ∀ k, k < g.length → k ≠ b → g2[k]? = g[k]?) (hc : CurI g2 b c K') : SyD h g2 b c K' b3 N P := by
  obtain ⟨p1, p2, p3, p4, p5, n, v, w, R, L, G, Bw, q1, q2, q3, q4, q5, q6, q7, q8, q9, q10⟩ := hp
  have l0 := cells_lt p4
  have l3 := cells_lt q1
  exact ⟨p1, p2, hc, cells_keep (hk _ l0 (by omega)) p4, fun k hk1 hn => (hk k (by omega) hn).trans (p5 k hk1 hn), n, v, w, R, L, G, Bw, cells_keep (hk _ l3 (by omega)) q1, q2, q3, q4, q5,
    q6.frame fun k hg => hk k (q7 k hg).2.1 (by have := (q7 k hg).1; omega), fun k hg => ⟨(q7 k hg).1, by have := (q7 k hg).2.1; omega, (q7 k hg).2.2⟩, q8.frame fun k hb => hk k (q8.lt k hb) (by have := (q9 k hb).1; omega), q9, q10⟩
theorem SyD.step {h g g2 : H} {b K K' b3 N : Nat} {c : Option (List UInt8)} {P : Int → Bt → Prop} (hp : SyD h g b c K b3 N P) (hs : CurS g g2 b c K') : SyD h g2 b c K' b3 N P :=
  hp.keep (by rw [hs.1]; exact Nat.le_refl _) (fun k _ hn => hs.2.1 k hn) hs.2.2
theorem SyD.more {h g l : H} {b K b3 N : Nat} {c : Option (List UInt8)} {P : Int → Bt → Prop} (hp : SyD h g b c K b3 N P) : SyD h (g ++ l) b c K b3 N P :=
  hp.keep (by simp) (fun k hk _ => List.getElem?_append_left hk) (hp.2.2.1.frame (List.getElem?_append_left hp.2.2.1.lt))
theorem SyD.mono {h g : H} {b K K' b3 N N' : Nat} {c : Option (List UInt8)} {P : Int → Bt → Prop} (hp : SyD h g b c K b3 N P) (hk : K ≤ K') (hn : N ≤ N') : SyD h g b c K' b3 N' P := by
  obtain ⟨p1, p2, p3, p4, p5, n, v, w, R, L, G, Bw, q1, q2, q3, q4, q5, q6⟩ := hp
  exact ⟨p1, p2, p3.mono hk, p4, p5, n, v, w, R, L, G, Bw, q1, q2, q3, by omega, by omega, q6⟩
/-- A bit more on the right. -/
theorem SyD.bit {h g : H} {b K b3 N by_ : Nat} {c : Option (List UInt8)} {P : Int → Bt → Prop} {n : Int} {v w : AV} {q : Bool} {pm : Nat → Prop} {Q : AV → H → Prop} (hp : SyD h g b c K b3 N P) (h6 : g.cells b3 = some [.int .i64 n, v, w]) (hpm : ∀ k, h.length ≤ k → pm k) (hby : by_ ≤ 8) (hN : N ≤ 1000000)
    (hQ : ∀ w' g2, SyD h (wr g2 b3 [.int .i64 n, v, w']) b c K b3 (N + 1) P → g2.cells b3 = some [.int .i64 n, v, w] → b3 < g2.length → one w' = true → cellsOf w' = [w'] → Q w' g2) : apA pm (g ++ [some (.cells [.bool q])]) Q 1 by_ (some ([.bool q], 1)) w := by
  obtain ⟨p1, p2, p3, p4, p5, n', v', w', R, L, G, Bw, q1, q2, q3, q4, q5, q6, q7, q8, q9, q10⟩ := hp
  rw [h6] at q1
  injection q1 with q1
  injection q1 with e1 q1
  injection e1 with _ e1
  injection q1 with e2 q1
  injection q1 with e3 _
  subst e1 e2 e3
  have l0 := cells_lt p4
  have l3 := cells_lt h6
  have hmul : (L.length + 1) * by_ ≤ (L.length + 1) * 8 := Nat.mul_le_mul_left _ hby
  refine (q8.frame (h' := g ++ _) fun k hk => List.getElem?_append_left (q8.lt k hk)).app0 (new := [.bool q]) (k := 1) (by_ := by_) (fun k hk => hpm k (by have := (q9 k hk).1; omega)) rfl (by omega) fun w2 g2 B2 a1 a2 a3 a4 a5 => ?_
  simp only [List.length_append, List.length_cons, List.length_nil] at a2 a3 a4
  have hk2 : ∀ k, k < g.length → k ∉ Bw → g2[k]? = g[k]? := fun k hk hn => (a3 k (by omega) hn).trans (List.getElem?_append_left hk)
  have hn3 : b3 ∉ Bw := fun hb => (q9 _ hb).2 rfl
  have hnl : ∀ k, k ≤ h.length → k ∉ Bw := fun k hk hb => by have := (q9 _ hb).1; omega
  have hwk : ∀ k, k ≠ b3 → (wr g2 b3 [.int .i64 n, v, w2])[k]? = g2[k]? := fun k hk => by
    unfold wr
    rw [List.getElem?_set_ne (Ne.symm hk)]
  have hB2 : ∀ k ∈ B2, h.length + 1 ≤ k ∧ k ≠ b3 ∧ (k ∈ Bw ∨ g.length ≤ k) := fun k hk => by
    rcases a4 k hk with h5 | h5
    · exact ⟨(q9 k h5).1, (q9 k h5).2, .inl h5⟩
    · exact ⟨by omega, by omega, .inr (by omega)⟩
  have ho := a1.one_
  refine hQ w2 g2 ⟨p1, p2, p3.frame ((hwk _ (by omega)).trans (hk2 _ (by omega) (hnl _ (by omega)))), cells_keep ((hwk _ (by omega)).trans (hk2 _ l0 (hnl _ (Nat.le_refl _)))) p4, fun k hk1 hn => (hwk _ (by omega)).trans ((hk2 _ (by omega) (hnl _ (by omega))).trans (p5 k hk1 hn)), n, v, w2, R, L ++ [q], G, B2, cells_wr2 (by omega), q2, q3, by omega, by simp; omega, q6.frame fun k hg => (hwk k (q7 k hg).2.2.1).trans (hk2 k (q7 k hg).2.1 (q7 k hg).2.2.2), fun k hg => ⟨(q7 k hg).1, by have := (q7 k hg).2.1; simp [wr]; omega, (q7 k hg).2.2.1, fun hb => ?_⟩, ?_, fun k hk => ⟨(hB2 k hk).1, (hB2 k hk).2.1⟩, q10⟩ (cells_keep (hk2 _ l3 hn3) h6) (by omega) ho.1 ho.2
  · rcases (hB2 k hb).2.2 with h5 | h5
    · exact (q7 k hg).2.2.2 h5
    · have := (q7 k hg).2.1; omega
  · have := a1.frame (h' := wr g2 b3 [.int .i64 n, v, w2]) fun k hk => hwk k (hB2 k hk).2.1
    simpa using this
/-- A row more. -/
theorem SyD.row {h g g1 : H} {b K b3 N by_ : Nat} {c : Option (List UInt8)} {P : Int → Bt → Prop} {n : Int} {v w : AV} {r : Bt} {new : List AV} {pm : Nat → Prop} {Q : AV → H → Prop} (hp : SyD h g b c K b3 N P) (h6 : g.cells b3 = some [.int .i64 n, v, w]) (hl : g.length ≤ g1.length) (hk : ∀ k, k < g.length → g1[k]? = g[k]?) (hnew : Ow g1 new (cB r) fun k => g.length ≤ k) (hn2 : new.length = 2) (hPr : P n r)
    (hpm : ∀ k, h.length ≤ k → pm k) (hby : by_ ≤ 64) (hN : N ≤ 1000000)
    (hQ : ∀ v' g2, SyD h (wr g2 b3 [.int .i64 n, v', w]) b c K b3 (N + 1) P → g2.cells b3 = some [.int .i64 n, v, w] → b3 < g2.length → one v' = true → cellsOf v' = [v'] → Q v' g2) : apA pm g1 Q 2 by_ (some (new, 1)) v := by
  obtain ⟨p1, p2, p3, p4, p5, n', v', w', R, L, G, Bw, q1, q2, q3, q4, q5, q6, q7, q8, q9, q10⟩ := hp
  rw [h6] at q1
  injection q1 with q1
  injection q1 with e1 q1
  injection e1 with _ e1
  injection q1 with e2 q1
  injection q1 with e3 _
  subst e1 e2 e3
  have l0 := cells_lt p4
  have l3 := cells_lt h6
  have hmul : (R.length + 1) * by_ ≤ (R.length + 1) * 64 := Nat.mul_le_mul_left _ hby
  have hlB : ∀ k ∈ Bw, k < g.length := fun k hk => q8.lt k hk
  refine q6.app (fun k hg => hpm k (by have := (q7 k hg).1; omega)) hl (fun k hg => hk k (q7 k hg).2.1) hnew hn2 (by unfold cB; cases r.words <;> rfl) (by omega) fun v2 g2 a1 a2 a3 a4 => ?_
  obtain ⟨bv, hbv⟩ := a1.sl1
  have hk2 : ∀ k, k < g.length → ¬ G k → g2[k]? = g[k]? := fun k hk1 hn => (a3 k (by omega) hn).trans (hk k hk1)
  have hn3 : ¬ G b3 := fun hg => (q7 _ hg).2.2.1 rfl
  have hnl : ∀ k, k ≤ h.length → ¬ G k := fun k hk hg => by have := (q7 _ hg).1; omega
  have hwk : ∀ k, k ≠ b3 → (wr g2 b3 [.int .i64 n, v2, w])[k]? = g2[k]? := fun k hk => by
    unfold wr
    rw [List.getElem?_set_ne (Ne.symm hk)]
  obtain ⟨U, u1, u2, u3⟩ := a1.exact_ (n0 := 0) (fun _ _ => Nat.zero_le _)
  have hU : ∀ k, U k → k < g2.length := fun k hk => by
    obtain ⟨l, hl, _⟩ := u2 k hk
    exact cells_lt hl
  have hUb : ∀ k, U k → h.length + 1 ≤ k ∧ k ≠ b3 ∧ k ∉ Bw := fun k hk => by
    rcases u1 k hk with h5 | h5
    · exact ⟨(q7 k h5).1, (q7 k h5).2.2⟩
    · exact ⟨by omega, by omega, fun hb => by have := hlB k hb; omega⟩
  refine hQ v2 g2 ⟨p1, p2, p3.frame ((hwk _ (by omega)).trans (hk2 _ (by omega) (hnl _ (by omega)))), cells_keep ((hwk _ (by omega)).trans (hk2 _ l0 (hnl _ (Nat.le_refl _)))) p4, fun k hk1 hn => (hwk _ (by omega)).trans ((hk2 _ (by omega) (hnl _ (by omega))).trans (p5 k hk1 hn)), n, v2, w, R ++ [r], L, U, Bw, cells_wr2 (by omega), q2, q3, by simp; omega, by omega, .inr ?_, fun k hu => ⟨(hUb k hu).1, by have := hU k hu; simp [wr]; omega, (hUb k hu).2⟩, q8.frame fun k hb => (hwk k (q9 k hb).2).trans (hk2 k (hlB k hb) fun hg => (q7 k hg).2.2.2 hb), q9, fun r' hr' => (List.mem_append.1 hr').elim (q10 r') (fun h5 => by rw [List.mem_singleton.1 h5]; exact hPr)⟩ (cells_keep (hk2 _ l3 hn3) h6) (by omega) (by rw [hbv]; rfl) (by rw [hbv]; rfl)
  have := u3 (wr g2 b3 [.int .i64 n, v2, w]) fun k hk => hwk k (hUb k hk).2.1
  simpa using this
/-- The cursor moves, in a heap of which only the lower part is looked at. -/
theorem CurS.take {g g2 : H} {b K m : Nat} {c : Option (List UInt8)} (hs : CurS g g2 b c K) (hb : b < m) : CurS (g.take m) (g2.take m) b c K := by
  obtain ⟨s1, s2, s3⟩ := hs
  exact ⟨by simp [s1], fun b' hb' => by simp only [List.getElem?_take, s2 b' hb'], s3.frame (by simp [List.getElem?_take, hb])⟩
theorem cells_take {g : H} {b m : Nat} {cs : List AV} (hc : g.cells b = some cs) (hb : b < m) : H.cells (g.take m) b = some cs := cells_keep (by simp [List.getElem?_take, hb]) hc
theorem cells_untake {g : H} {b m : Nat} {cs : List AV} (hc : H.cells (g.take m) b = some cs) : g.cells b = some cs := by
  have hb := cells_lt hc
  rw [List.length_take] at hb
  exact cells_keep (by rw [List.getElem?_take, if_pos (by omega)]) hc
/-- A row of a system while it is drawn. -/
def RowP (n : Int) (r : Bt) : Prop := ∃ B : Nat, r = ⟨n, some (wordsN B ((n + 15) / 16).toNat)⟩
def AnyP (n : Int) (r : Bt) : Prop := True
theorem SyD.any {h g : H} {b K b3 N : Nat} {c : Option (List UInt8)} {P : Int → Bt → Prop} (hp : SyD h g b c K b3 N P) : SyD h g b c K b3 N AnyP := by
  obtain ⟨p1, p2, p3, p4, p5, n, v, w, R, L, G, Bw, q1, q2, q3, q4, q5, q6, q7, q8, q9, q10⟩ := hp
  exact ⟨p1, p2, p3, p4, p5, n, v, w, R, L, G, Bw, q1, q2, q3, q4, q5, q6, q7, q8, q9, fun _ _ => trivial⟩
/-- The size is put over. -/
theorem SyD.size {h g : H} {b K b3 N : Nat} {c : Option (List UInt8)} {n n2 : Int} {v w : AV} {P : Int → Bt → Prop} (hp : SyD h g b c K b3 N P) (h6 : g.cells b3 = some [.int .i64 n, v, w]) (h1 : -1 ≤ n2) (h2 : n2 ≤ 73) : SyD h (wr g b3 [.int .i64 n2, v, w]) b c K b3 N AnyP := by
  obtain ⟨p1, p2, p3, p4, p5, n', v', w', R, L, G, Bw, q1, q2, q3, q4, q5, q6, q7, q8, q9, q10⟩ := hp
  rw [h6] at q1
  injection q1 with q1
  injection q1 with e1 q1
  injection e1 with _ e1
  injection q1 with e2 q1
  injection q1 with e3 _
  subst e1 e2 e3
  have l3 := cells_lt h6
  have hwk : ∀ k, k ≠ b3 → (wr g b3 [.int .i64 n2, v, w])[k]? = g[k]? := fun k hk => by
    unfold wr
    rw [List.getElem?_set_ne (Ne.symm hk)]
  exact ⟨p1, p2, p3.frame (hwk _ (by omega)), cells_keep (hwk _ (by omega)) p4, fun k hk1 hn => (hwk _ (by omega)).trans (p5 k hk1 hn), n2, v, w, R, L, G, Bw, cells_wr2 l3, h1, h2, q4, q5, q6.frame fun k hg => hwk k (q7 k hg).2.2.1, fun k hg => ⟨(q7 k hg).1, by have := (q7 k hg).2.1; simpa [wr] using this, (q7 k hg).2.2⟩, q8.frame fun k hb => hwk k (q9 k hb).2, q9, fun _ _ => trivial⟩
/-- A row that is there, as it lies in memory. -/
theorem OwG.row {h : H} {G : Nat → Prop} {v : AV} {R : List Bt} {i : Nat} (ho : OwG h G 2 v R.length (R.flatMap cB)) (hi : i < R.length) : ∃ bo cs x, v = .sl bo 0 2 R.length R.length ∧ h.cells bo = some cs ∧ cs.length = R.length * 2 ∧ ld true 2 cs (i * 2) = some x ∧ Vw h 0 x (eB (R.getD i default)) := by
  rcases ho with ⟨_, h0, _⟩ | ho
  · omega
  obtain ⟨b, cs, F, rfl, hc, hcl, hbn, hF, hin, hre⟩ := ho.open_
  have hfl : (R.flatMap cB).length = R.length * 2 := by rw [hin.len, hcl]
  refine ⟨b, cs, .agg ((cs.drop (i * 2)).take 2), rfl, hc, hcl, ?_, ?_⟩
  · unfold ld
    rw [if_pos rfl, if_pos (by omega)]
  · refine .agg (by simp [cB]; omega) fun j y t hy ht => ?_
    have hj : j < 2 := by
      have := (List.getElem?_eq_some_iff.1 ht).1
      simpa [cB] using this
    rw [List.getElem?_take, if_pos hj, List.getElem?_drop] at hy
    exact hin.vw (n0 := 0) (fun _ _ => Nat.zero_le _) (i * 2 + j) y t hy ((flatMap_get cB_len default hi hj).trans ht)

/-- Where a row is made the sum of two: what stays. -/
structure XC where
  g : H
  b : Nat
  b3 : Nat
  b5 : Nat
  bo : Nat
  nn : Nat
  m : Nat
  K : Nat
  c : Option (List UInt8)
  v : AV
  x2 : AV
  x4 : AV
  cs : List AV
  R : List Bt
def XC.ph (X : XC) (k : Nat) (x : AV) : Prop :=
  if k = 46 ∨ k = 49 ∨ k = 55 ∨ k = 58 then x = .adr X.b3 1
  else if k = 48 ∨ k = 57 then x = .adr X.b 0
  else if k = 47 ∨ k = 50 ∨ k = 56 ∨ k = 59 then x = X.v
  else if k = 51 ∨ k = 60 then x = .int .i64 X.R.length
  else if k = 52 ∨ k = 61 then ∃ q : Nat, x = .int .i64 q ∧ q < X.R.length
  else if k = 53 ∨ k = 62 then ∃ q : Nat, x = .adr X.bo (q * 2) ∧ q < X.R.length
  else if k = 54 ∨ k = 63 then ∃ q : Nat, ld true 2 X.cs (q * 2) = some x ∧ q < X.R.length
  else True
def XC.row (X : XC) (h : H) (x : AV) : Prop := ∃ bb B, x = .agg [.int .i64 X.nn, .sl bb 0 1 X.m X.m] ∧ X.g.length ≤ bb ∧ h.cells bb = some ((wordsN B X.m).map (.int .i64))
def XC.box (X : XC) (h : H) : Prop := ∃ bb B, h.cells X.b5 = some [.int .i64 X.nn, .sl bb 0 1 X.m X.m] ∧ X.g.length ≤ bb ∧ h.cells bb = some ((wordsN B X.m).map (.int .i64))
def XC.en (X : XC) (e : Env) : Prop := e 0 = .adr X.b 0 ∧ e 2 = X.x2 ∧ e 3 = .adr X.b3 0 ∧ e 4 = X.x4 ∧ e 5 = .adr X.b5 0
def XC.fr (X : XC) (h : H) (k : Nat) : Prop := X.g.length ≤ h.length ∧ (∀ k, k < X.g.length → k ≠ X.b → k ≠ X.b5 → h[k]? = X.g[k]?) ∧ (∃ x y, h.cells X.b5 = some [x, y]) ∧ CurI h X.b X.c (X.K + k)
def XC.st (X : XC) (S : List Nat) (e : Env) (h : H) : Prop := X.en e ∧ X.fr h S.length ∧ (∀ k ∈ S, X.ph k (e k)) ∧ (64 ∈ S → X.row h (e 64)) ∧ (65 ∈ S → X.box h)
/-- What is so of the memory at the start. -/
def XC.ok (X : XC) (G : Nat → Prop) : Prop :=
  X.b < X.g.length ∧ X.b3 < X.g.length ∧ X.b5 < X.g.length ∧ X.b ≠ X.b3 ∧ X.b ≠ X.b5 ∧ X.b3 ≠ X.b5 ∧ X.K + 30 ≤ 1000000000 ∧ 1 < X.R.length ∧ X.R.length ≤ 200 ∧
  OwG X.g G 2 X.v X.R.length (X.R.flatMap cB) ∧ (∀ k, G k → k < X.g.length ∧ k ≠ X.b ∧ k ≠ X.b5) ∧ X.v = .sl X.bo 0 2 X.R.length X.R.length ∧ G X.bo ∧ X.g.cells X.bo = some X.cs ∧ (∃ n w, X.g.cells X.b3 = some [n, X.v, w]) ∧
  (∀ r ∈ X.R, ∃ B : Nat, r = ⟨X.nn, some (wordsN B X.m)⟩) ∧ (((X.nn : Int) + 15) / 16) = (X.m : Int) ∧ X.nn ≤ 1000 ∧ X.m ≤ 1000
theorem XC.at3 {X : XC} {G : Nat → Prop} (ho : X.ok G) {h : H} {k : Nat} (hf : X.fr h k) : ∃ n w, h.cells X.b3 = some [n, X.v, w] := by
  obtain ⟨o1, o2, o3, o4, o5, o6, o7, o8, o9, o10, o11, o12, o13, o14, ⟨n, w, o15⟩, o16⟩ := ho
  exact ⟨n, w, cells_keep (hf.2.1 _ o2 (Ne.symm o4) o6) o15⟩
theorem XC.atO {X : XC} {G : Nat → Prop} (ho : X.ok G) {h : H} {k : Nat} (hf : X.fr h k) : h.cells X.bo = some X.cs := by
  obtain ⟨o1, o2, o3, o4, o5, o6, o7, o8, o9, o10, o11, o12, o13, o14, o15, o16⟩ := ho
  exact cells_keep (hf.2.1 _ (o11 _ o13).1 (o11 _ o13).2.1 (o11 _ o13).2.2) o14
theorem XC.rowAt {X : XC} {G : Nat → Prop} (ho : X.ok G) {h : H} {k q : Nat} {x : AV} (hf : X.fr h k) (hq : q < X.R.length) (hx : ld true 2 X.cs (q * 2) = some x) : ∃ B : Nat, Vw h 0 x (eB ⟨X.nn, some (wordsN B X.m)⟩) := by
  have h0 := X.atO ho hf
  obtain ⟨o1, o2, o3, o4, o5, o6, o7, o8, o9, o10, o11, o12, o13, o14, o15, o16, o17⟩ := ho
  obtain ⟨bo, cs, y, e1, e2, e3, e4, e5⟩ := (o10.frame fun c hc => hf.2.1 c (o11 c hc).1 (o11 c hc).2.1 (o11 c hc).2.2).row hq
  rw [o12] at e1
  injection e1 with e1
  subst e1
  rw [h0] at e2
  injection e2 with e2
  subst e2
  rw [hx] at e4
  injection e4 with e4
  subst e4
  obtain ⟨B, hB⟩ := o16 _ (getD_mem hq)
  rw [hB] at e5
  exact ⟨B, e5⟩
theorem put_same (e : Env) (k : Nat) (x : AV) : (e.put (some k) x) k = x := if_pos rfl
theorem XC.stp {X : XC} {G : Nat → Prop} (ho : X.ok G) {S : List Nat} {e : Env} {h h' : H} {k : Nat} {x : AV} (hs : X.st S e h) (hk : 46 ≤ k ∧ k ≤ 63) (hx : X.ph k x) (hh : CurS h h' X.b X.c (X.K + S.length + 1)) : X.st (k :: S) (e.put (some k) x) h' := by
  obtain ⟨o1, o2, o3, o4, o5, o6, _⟩ := ho
  obtain ⟨⟨e0, e2, e3, e4, e5⟩, ⟨f1, f2, ⟨xa, xb, f3⟩, f4⟩, s3, s4, s5⟩ := hs
  obtain ⟨c1, c2, c3⟩ := hh
  have hn : ∀ j, j ≠ k → (e.put (some k) x) j = e j := fun j hj => if_neg hj
  refine ⟨⟨(hn 0 (by omega)).trans e0, (hn 2 (by omega)).trans e2, (hn 3 (by omega)).trans e3, (hn 4 (by omega)).trans e4, (hn 5 (by omega)).trans e5⟩, ⟨by omega, fun j hj h1 h2 => (c2 j h1).trans (f2 j hj h1 h2), ⟨xa, xb, cells_keep (c2 _ (Ne.symm o5)) f3⟩, c3.mono (by simp only [List.length_cons]; omega)⟩, fun j hj => ?_, fun h64 => ?_, fun h65 => ?_⟩
  · by_cases hjk : j = k
    · subst hjk
      rw [show (e.put (some j) x) j = x from if_pos rfl]
      exact hx
    · rw [hn j hjk]
      rcases List.mem_cons.1 hj with h1 | h1
      · exact absurd h1 hjk
      · exact s3 j h1
  · rw [hn 64 (by omega)]
    rcases List.mem_cons.1 h64 with h1 | h1
    · omega
    obtain ⟨bb, B, r1, r2, r3⟩ := s4 h1
    exact ⟨bb, B, r1, r2, cells_keep (c2 _ (by omega)) r3⟩
  · rcases List.mem_cons.1 h65 with h1 | h1
    · omega
    obtain ⟨bb, B, r1, r2, r3⟩ := s5 h1
    exact ⟨bb, B, cells_keep (c2 _ (Ne.symm o5)) r1, r2, cells_keep (c2 _ (by omega)) r3⟩
theorem XC.stv {X : XC} {G : Nat → Prop} (ho : X.ok G) {S : List Nat} {e : Env} {h : H} {k : Nat} {x : AV} (hs : X.st S e h) (hk : 46 ≤ k ∧ k ≤ 63) (hx : X.ph k x) : X.st (k :: S) (e.put (some k) x) h :=
  hs.1 |> fun _ => X.stp ho hs hk hx ⟨rfl, fun _ _ => rfl, hs.2.1.2.2.2.mono (by omega)⟩
theorem XC.ldAt {X : XC} {G : Nat → Prop} (ho : X.ok G) {q : Nat} (hq : q < X.R.length) : ∃ x, ld true 2 X.cs (q * 2) = some x := by
  obtain ⟨o1, o2, o3, o4, o5, o6, o7, o8, o9, o10, o11, o12, o13, o14, o15, o16, o17⟩ := ho
  obtain ⟨bo, cs, y, e1, e2, e3, e4, e5⟩ := o10.row hq
  rw [o12] at e1
  injection e1 with e1
  subst e1
  rw [o14] at e2
  injection e2 with e2
  subst e2
  exact ⟨y, e4⟩

/-- A row that is drawn: what lies below m0 is as it was, but for the cursor; the row lies in b5 and bb. -/
def RwI (h g : H) (b : Nat) (c : Option (List UInt8)) (K b3 N m0 b5 nn m : Nat) (v w : AV) (bb B : Nat) : Prop :=
  SyD h (g.take m0) b c K b3 N RowP ∧ m0 ≤ g.length ∧ b3 < m0 ∧ g.cells b3 = some [.int .i64 nn, v, w] ∧ m0 ≤ b5 ∧ m0 ≤ bb ∧ bb ≠ b5 ∧ g.cells b5 = some [.int .i64 nn, .sl bb 0 1 m m] ∧ g.cells bb = some ((wordsN B m).map (.int .i64))
theorem RwI.bm {h g : H} {b K b3 N m0 b5 nn m bb B : Nat} {c : Option (List UInt8)} {v w : AV} (hr : RwI h g b c K b3 N m0 b5 nn m v w bb B) : b < h.length ∧ h.length + 1 ≤ b3 ∧ b3 < m0 := ⟨hr.1.1, hr.1.2.1, hr.2.2.1⟩
theorem RwI.cur {h g : H} {b K b3 N m0 b5 nn m bb B : Nat} {c : Option (List UInt8)} {v w : AV} (hr : RwI h g b c K b3 N m0 b5 nn m v w bb B) : CurI g b c K := by
  have h0 := hr.bm
  exact hr.1.2.2.1.frame (by rw [List.getElem?_take, if_pos (by omega)])
theorem RwI.step {h g g2 : H} {b K K' b3 N m0 b5 nn m bb B : Nat} {c : Option (List UInt8)} {v w : AV} (hr : RwI h g b c K b3 N m0 b5 nn m v w bb B) (hs : CurS g g2 b c K') : RwI h g2 b c K' b3 N m0 b5 nn m v w bb B := by
  have h0 := hr.bm
  obtain ⟨r1, r2, r3, r4, r5, r6, r7, r8, r9⟩ := hr
  exact ⟨r1.step (hs.take (by omega)), by rw [hs.1]; exact r2, r3, cells_keep (hs.2.1 _ (by omega)) r4, r5, r6, r7, cells_keep (hs.2.1 _ (by omega)) r8, cells_keep (hs.2.1 _ (by omega)) r9⟩
theorem RwI.mono {h g : H} {b K K' b3 N m0 b5 nn m bb B : Nat} {c : Option (List UInt8)} {v w : AV} (hr : RwI h g b c K b3 N m0 b5 nn m v w bb B) (hk : K ≤ K') : RwI h g b c K' b3 N m0 b5 nn m v w bb B := ⟨hr.1.mono hk (Nat.le_refl _), hr.2⟩
theorem take_keep {h g g2 : H} {b K K' b3 N m0 : Nat} {c : Option (List UInt8)} {P : Int → Bt → Prop} (hp : SyD h (g.take m0) b c K b3 N P) (h0 : m0 ≤ g.length) (h1 : m0 ≤ g2.length) (hk : ∀ k, k < m0 → k ≠ b → g2[k]? = g[k]?) (hc : CurI g2 b c K') (hb : b < m0) : SyD h (g2.take m0) b c K' b3 N P := by
  refine hp.keep (by simp; omega) (fun k hk1 hn => ?_) (hc.frame (by rw [List.getElem?_take, if_pos hb]))
  rw [List.length_take] at hk1
  rw [List.getElem?_take, List.getElem?_take, if_pos (by omega), if_pos (by omega)]
  exact hk k (by omega) hn
theorem RwI.put {h g g2 : H} {b K b3 N m0 b5 nn m bb B B' : Nat} {c : Option (List UInt8)} {v w : AV} (hr : RwI h g b c K b3 N m0 b5 nn m v w bb B) (hl : g.length ≤ g2.length) (hk : ∀ k, k < g.length → k ≠ bb → g2[k]? = g[k]?) (hc : g2.cells bb = some ((wordsN B' m).map (.int .i64))) : RwI h g2 b c K b3 N m0 b5 nn m v w bb B' := by
  have h0 := hr.bm
  have h1 := hr.cur
  obtain ⟨r1, r2, r3, r4, r5, r6, r7, r8, r9⟩ := hr
  exact ⟨take_keep r1 r2 (by omega) (fun k hk1 _ => hk k (by omega) (by omega)) (h1.frame (hk _ (by omega) (by omega))) (by omega), by omega, r3, cells_keep (hk _ (cells_lt r4) (by omega)) r4, r5, r6, r7, cells_keep (hk _ (cells_lt r8) (Ne.symm r7)) r8, hc⟩
theorem RwI.init {h g h5 : H} {b K b3 N nn m bb B : Nat} {c : Option (List UInt8)} {v w : AV} (hp : SyD h g b c K b3 N RowP) (h6 : g.cells b3 = some [.int .i64 nn, v, w]) (hl : g.length ≤ h5.length) (hk : ∀ k, k < g.length → h5[k]? = g[k]?) (hb : g.length ≤ bb) (hc : h5.cells bb = some ((wordsN B m).map (.int .i64))) :
    RwI h (h5 ++ [some (.cells [.int .i64 nn, .sl bb 0 1 m m])]) b c K b3 N g.length h5.length nn m v w bb B := by
  have l3 := cells_lt h6
  have lb := cells_lt hc
  have hcu := hp.2.2.1
  have hbl := hcu.lt
  have hg : SyD h (g.take g.length) b c K b3 N RowP := by rw [List.take_length]; exact hp
  exact ⟨take_keep hg (Nat.le_refl _) (by simp; omega) (fun k hk1 _ => (List.getElem?_append_left (by omega)).trans (hk k hk1)) ((hcu.frame (hk _ hbl)).frame (List.getElem?_append_left (by omega))) hbl, by simp; omega, l3, cells_app (cells_keep (hk _ l3) h6), hl, hb, by omega, by rw [cells_h0]; rfl, cells_app hc⟩
theorem OwG.lenA {h : H} {G : Nat → Prop} {sz k : Nat} {v : AV} {ts : List AV} (ho : OwG h G sz v k ts) : lenA v = some (.int .i64 k) := by
  rcases ho with ⟨rfl, rfl, _⟩ | ho
  · rfl
  · obtain ⟨b, rfl⟩ := ho.sl1
    rfl
theorem OwG.hd {h : H} {G : Nat → Prop} {v : AV} {k : Nat} {ts : List AV} (ho : OwG h G 2 v k ts) (hk : 0 < k) : ∃ bo cs, v = .sl bo 0 2 k k ∧ G bo ∧ h.cells bo = some cs := by
  rcases ho with ⟨_, h0, _⟩ | ho
  · omega
  obtain ⟨b, cs, F, rfl, hc, hcl, hbn, hF, hin, hre⟩ := ho.open_
  exact ⟨b, cs, rfl, hbn, hc⟩
theorem RwI.xor {h g g2 : H} {b K K' b3 N m0 b5 nn m bb B bb2 B2 : Nat} {c : Option (List UInt8)} {v w : AV} (hr : RwI h g b c K b3 N m0 b5 nn m v w bb B) (hl : g.length ≤ g2.length) (hk : ∀ k, k < g.length → k ≠ b → k ≠ b5 → g2[k]? = g[k]?) (hc : CurI g2 b c K') (hb : g.length ≤ bb2)
    (h5 : g2.cells b5 = some [.int .i64 nn, .sl bb2 0 1 m m]) (h6 : g2.cells bb2 = some ((wordsN B2 m).map (.int .i64))) : RwI h g2 b c K' b3 N m0 b5 nn m v w bb2 B2 := by
  have h0 := hr.bm
  obtain ⟨r1, r2, r3, r4, r5, r6, r7, r8, r9⟩ := hr
  have l5 := cells_lt r8
  exact ⟨take_keep r1 r2 (by omega) (fun k hk1 hn => hk k (by omega) hn (by omega)) hc (by omega), by omega, r3, cells_keep (hk _ (cells_lt r4) (by omega) (by omega)) r4, r5, by omega, by omega, h5, h6⟩
theorem SyD.takeOf {h g g2 : H} {b K K' b3 N : Nat} {c : Option (List UInt8)} {P : Int → Bt → Prop} (hp : SyD h g b c K b3 N P) (h1 : g.length ≤ g2.length) (hk : ∀ k, k < g.length → k ≠ b → g2[k]? = g[k]?) (hc : CurI g2 b c K') : SyD h (g2.take g.length) b c K' b3 N P :=
  take_keep (m0 := g.length) (g := g) (by rw [List.take_length]; exact hp) (Nat.le_refl _) h1 hk hc hp.2.2.1.lt
/-- What comes back. -/
def SyX (h h' : H) (b : Nat) (c : Option (List UInt8)) (K : Nat) (x : AV) : Prop :=
  h.length ≤ h'.length ∧ (∀ k, k < h.length → k ≠ b → h'[k]? = h[k]?) ∧ CurI h' b c K ∧
  ∃ (n : Int) (v w : AV) (R : List Bt) (L : List Bool) (G : Nat → Prop) (Bw : List Nat), x = .agg [.int .i64 n, v, w] ∧ -1 ≤ n ∧ n ≤ 73 ∧ R.length ≤ 150 ∧ L.length ≤ 150 ∧
    OwG h' G 2 v R.length (R.flatMap cB) ∧ (∀ k, G k → h.length ≤ k ∧ k < h'.length ∧ k ∉ Bw) ∧ S1 h' 1 w L.length (L.map .bool) Bw ∧ ∀ k ∈ Bw, h.length ≤ k

theorem xor_step {X : XC} {G : Nat → Prop} {pm : Nat → Prop} (ho : X.ok G) (hpm : ∀ k, k = X.b ∨ k = X.b5 → pm k) : ∀ i p, o83[i]? = some p → ∀ S e h, i ∉ S → S.length < o83.length → (∀ j ∈ p.2, j ∈ S) → X.st (S.map (· + 46)) e h → TOp Try.prog (fun b => pm b ∧ b ∉ ([] : List Nat)) e h (fun x h' => X.st ((i :: S).map (· + 46)) (e.put p.1.dst x) h') p.1.op := by
  intro i p hp S0 e h _ hlen hall0 hs
  have hi : i < o83.length := (List.getElem?_eq_some_iff.1 hp).1
  have hi20 : i < 20 := hi
  have hlen20 : (S0.map (· + 46)).length < 20 := by rw [List.length_map]; exact hlen
  have hall : ∀ j, j ∈ p.2 → j + 46 ∈ S0.map (· + 46) := fun j hj => List.mem_map.2 ⟨j, hall0 j hj, rfl⟩
  rw [List.map_cons]
  generalize S0.map (· + 46) = S at *
  have hpm2 : ∀ k, k = X.b ∨ k = X.b5 → pm k ∧ k ∉ ([] : List Nat) := fun k hk => ⟨hpm k hk, List.not_mem_nil⟩
  have e3 : e 3 = .adr X.b3 0 := hs.1.2.2.1
  have e0 : e 0 = .adr X.b 0 := hs.1.1
  have e5 : e 5 = .adr X.b5 0 := hs.1.2.2.2.2
  obtain ⟨n3, w3, c3⟩ := X.at3 ho hs.2.1
  have cO := X.atO ho hs.2.1
  have hv : X.v = .sl X.bo 0 2 X.R.length X.R.length := ho.2.2.2.2.2.2.2.2.2.2.2.1
  have h1R : 1 < X.R.length := ho.2.2.2.2.2.2.2.1
  have h2R : X.R.length ≤ 200 := ho.2.2.2.2.2.2.2.2.1
  have hK : X.K + 30 ≤ 1000000000 := ho.2.2.2.2.2.2.1
  have hph := hs.2.2.1
  have pick : ∀ k : Nat, 46 ≤ k ∧ k ≤ 63 → k = 52 ∨ k = 61 → Call Try.prog 110 [.adr X.b 0, .int .i64 X.R.length] h (fun b => pm b ∧ b ∉ ([] : List Nat)) (fun x h' => X.st (k :: S) (e.put (some k) x) h') := fun k hk hk2 =>
    (c_spec_l1Cur_pick X.b X.c (X.K + S.length) h X.R.length hs.2.1.2.2.2 (by omega) (by omega) (by omega)).mono (fun x h' hx => by
      obtain ⟨⟨q, rfl, m0, m1⟩, hc⟩ := hx
      refine X.stp ho hs hk ?_ hc
      rcases hk2 with rfl | rfl
      · exact ⟨q.toNat, by rw [Int.toNat_of_nonneg m0], by omega⟩
      · exact ⟨q.toNat, by rw [Int.toNat_of_nonneg m0], by omega⟩) (fun b' _ hb' => hpm2 _ (.inl hb'))
  have iad : ∀ q : Nat, q < X.R.length → iaddrA 2 X.v (.int .i64 q) = some (.adr X.bo (q * 2)) := fun q hq => by
    rw [hv, iaddrA_sl (by omega) (by omega)]
    simp
  have ldo : ∀ q : Nat, q < X.R.length → ∃ x, ((h.cells X.bo).bind fun cs => ld true 2 cs (q * 2)) = some x ∧ ld true 2 X.cs (q * 2) = some x := fun q hq => by
    obtain ⟨x, hx⟩ := X.ldAt ho hq
    exact ⟨x, by rw [cO]; exact hx, hx⟩
  rcases (by omega : i = 0 ∨ i = 1 ∨ i = 2 ∨ i = 3 ∨ i = 4 ∨ i = 5 ∨ i = 6 ∨ i = 7 ∨ i = 8 ∨ i = 9 ∨ i = 10 ∨ i = 11 ∨ i = 12 ∨ i = 13 ∨ i = 14 ∨ i = 15 ∨ i = 16 ∨ i = 17 ∨ i = 18 ∨ i = 19) with rfl | rfl | rfl | rfl | rfl | rfl | rfl | rfl | rfl | rfl | rfl | rfl | rfl | rfl | rfl | rfl | rfl | rfl | rfl | rfl <;> (injection hp with hp; subst hp)
  · simp only [TOp, ev0, evO, e3]
    exact X.stv ho hs (by omega) rfl
  · have a : e 46 = .adr X.b3 1 := hph 46 (hall 0 (by simp))
    simp only [TOp, ev0, evO, a, c3]
    exact X.stv ho hs (by omega) rfl
  · simp only [TOp, ev0, evO, e0]
    exact X.stv ho hs (by omega) rfl
  · simp only [TOp, ev0, evO, e3]
    exact X.stv ho hs (by omega) rfl
  · have a : e 49 = .adr X.b3 1 := hph 49 (hall 3 (by simp))
    simp only [TOp, ev0, evO, a, c3]
    exact X.stv ho hs (by omega) rfl
  · have a : e 50 = X.v := hph 50 (hall 4 (by simp))
    simp only [TOp, ev0, evO, a, hv]
    exact X.stv ho hs (by omega) rfl
  · have a : e 48 = .adr X.b 0 := hph 48 (hall 2 (by simp))
    have a2 : e 51 = .int .i64 X.R.length := hph 51 (hall 5 (by simp))
    simp only [TOp, List.map_cons, List.map_nil, evO, a, a2]
    exact pick 52 (by omega) (.inl rfl)
  · have a : e 47 = X.v := hph 47 (hall 1 (by simp))
    obtain ⟨q, a2, hq⟩ : ∃ q : Nat, e 52 = .int .i64 q ∧ q < X.R.length := hph 52 (hall 6 (by simp))
    have := iad q hq
    simp only [TOp]
    rw [ev0_iaddr]
    simp only [evO, a, a2, this]
    exact X.stv ho hs (by omega) ⟨q, rfl, hq⟩
  · obtain ⟨q, a, hq⟩ : ∃ q : Nat, e 53 = .adr X.bo (q * 2) ∧ q < X.R.length := hph 53 (hall 7 (by simp))
    obtain ⟨x, hx, hx2⟩ := ldo q hq
    simp only [TOp, ev0, evO, a, hx]
    exact X.stv ho hs (by omega) ⟨q, hx2, hq⟩
  · simp only [TOp, ev0, evO, e3]
    exact X.stv ho hs (by omega) rfl
  · have a : e 55 = .adr X.b3 1 := hph 55 (hall 9 (by simp))
    simp only [TOp, ev0, evO, a, c3]
    exact X.stv ho hs (by omega) rfl
  · simp only [TOp, ev0, evO, e0]
    exact X.stv ho hs (by omega) rfl
  · simp only [TOp, ev0, evO, e3]
    exact X.stv ho hs (by omega) rfl
  · have a : e 58 = .adr X.b3 1 := hph 58 (hall 12 (by simp))
    simp only [TOp, ev0, evO, a, c3]
    exact X.stv ho hs (by omega) rfl
  · have a : e 59 = X.v := hph 59 (hall 13 (by simp))
    simp only [TOp, ev0, evO, a, hv]
    exact X.stv ho hs (by omega) rfl
  · have a : e 57 = .adr X.b 0 := hph 57 (hall 11 (by simp))
    have a2 : e 60 = .int .i64 X.R.length := hph 60 (hall 14 (by simp))
    simp only [TOp, List.map_cons, List.map_nil, evO, a, a2]
    exact pick 61 (by omega) (.inr rfl)
  · have a : e 56 = X.v := hph 56 (hall 10 (by simp))
    obtain ⟨q, a2, hq⟩ : ∃ q : Nat, e 61 = .int .i64 q ∧ q < X.R.length := hph 61 (hall 15 (by simp))
    have := iad q hq
    simp only [TOp]
    rw [ev0_iaddr]
    simp only [evO, a, a2, this]
    exact X.stv ho hs (by omega) ⟨q, rfl, hq⟩
  · obtain ⟨q, a, hq⟩ : ∃ q : Nat, e 62 = .adr X.bo (q * 2) ∧ q < X.R.length := hph 62 (hall 16 (by simp))
    obtain ⟨x, hx, hx2⟩ := ldo q hq
    simp only [TOp, ev0, evO, a, hx]
    exact X.stv ho hs (by omega) ⟨q, hx2, hq⟩
  · obtain ⟨q, a, hq⟩ : ∃ q : Nat, ld true 2 X.cs (q * 2) = some (e 54) ∧ q < X.R.length := hph 54 (hall 8 (by simp))
    obtain ⟨q2, a2, hq2⟩ : ∃ q : Nat, ld true 2 X.cs (q * 2) = some (e 63) ∧ q < X.R.length := hph 63 (hall 17 (by simp))
    obtain ⟨A, v1⟩ := X.rowAt ho hs.2.1 hq a
    obtain ⟨B, v2⟩ := X.rowAt ho hs.2.1 hq2 a2
    obtain ⟨o1, o2, o3, o4, o5, o6, o7, o8, o9, o10, o11, o12, o13, o14, o15, o16, o17, o18, o19⟩ := id ho
    simp only [TOp, List.map_cons, List.map_nil, evO]
    refine (c_spec_biXor_o (some (wordsN A X.m)) (some (wordsN B X.m)) X.nn X.nn X.m A B rfl rfl o17 (by omega)).goL (.cons v1 (.cons v2 .nil)) fun x t h' ht hext how => ?_
    subst ht
    obtain ⟨bb, rfl, q1, q2⟩ := ow_bits2 how
    rw [wordsN_len]
    obtain ⟨⟨e0, e2, e3, e4, e5⟩, ⟨f1, f2, ⟨xa, xb, f3⟩, f4⟩, s3, s4, s5⟩ := hs
    have hl := hext.len
    have hn : ∀ (x : AV) j, j ≠ 64 → (e.put (some 64) x) j = e j := fun x j hj => if_neg hj
    have fx : ∀ {k cs}, h.cells k = some cs → h'.cells k = some cs := fun hc => hext.cells hc
    refine ⟨⟨(hn _ 0 (by omega)).trans e0, (hn _ 2 (by omega)).trans e2, (hn _ 3 (by omega)).trans e3, (hn _ 4 (by omega)).trans e4, (hn _ 5 (by omega)).trans e5⟩, ⟨by omega, fun j hj h1 h2 => (hext.at_ (by omega)).trans (f2 j hj h1 h2), ⟨xa, xb, fx f3⟩, (f4.frame (hext.at_ f4.lt)).mono (by simp only [List.length_cons]; omega)⟩, fun j hj => ?_, fun h64 => ?_, fun h65 => ?_⟩
    · by_cases hjk : j = 64
      · subst hjk
        simp [XC.ph]
      · rw [hn _ j hjk]
        rcases List.mem_cons.1 hj with h1 | h1
        · exact absurd h1 hjk
        · exact s3 j h1
    · exact ⟨bb, _, put_same _ _ _, by have := q1.1; omega, q2⟩
    · rcases List.mem_cons.1 h65 with h1 | h1
      · exact absurd h1 (by decide)
      obtain ⟨b2, B2, r1, r2, r3⟩ := s5 h1
      exact ⟨b2, B2, fx r1, r2, fx r3⟩
  · obtain ⟨bb, B, r1, r2, r3⟩ := hs.2.2.2.1 (hall 18 (by simp))
    obtain ⟨o1, o2, o3, o4, o5, o6, _⟩ := id ho
    obtain ⟨⟨e0, e2, e3, e4, e5⟩, ⟨f1, f2, ⟨xa, xb, f3⟩, f4⟩, s3, s4, s5⟩ := hs
    have hw : ∀ (cs : List AV) k, k ≠ X.b5 → (wr h X.b5 cs)[k]? = h[k]? := fun cs k hk => by
      unfold wr
      rw [List.getElem?_set_ne (Ne.symm hk)]
    simp only [TOp, ev1, evO, e5, f3, r1]
    refine ⟨hpm2 _ (.inr rfl), rfl, by simp, rfl, ?_⟩
    refine ⟨⟨e0, e2, e3, e4, e5⟩, ⟨by simp [wr]; omega, fun j hj h1 h2 => (hw _ j h2).trans (f2 j hj h1 h2), ⟨_, _, cells_wr2 (cells_lt f3)⟩, (f4.frame (hw _ _ o5)).mono (by simp only [List.length_cons]; omega)⟩, fun j hj => ?_, fun h64 => ?_, fun h65 => ?_⟩
    · rcases List.mem_cons.1 hj with h1 | h1
      · rw [h1]
        simp [XC.ph]
      · exact s3 j h1
    · exact ⟨bb, B, r1, r2, cells_keep (hw _ _ (by omega)) r3⟩
    · exact ⟨bb, B, cells_wr2 (cells_lt f3), r2, cells_keep (hw _ _ (by omega)) r3⟩
theorem xor_any {X : XC} {G : Nat → Prop} {pm : Nat → Prop} {Q : Env → H → Prop} {e : Env} (ho : X.ok G) (hpm : ∀ k, k = X.b ∨ k = X.b5 → pm k) (he : X.en e) (hcu : CurI X.g X.b X.c X.K) (hbx : ∃ x y, X.g.cells X.b5 = some [x, y])
    (hQ : ∀ e h, X.en e → X.fr h 20 → X.box h → Q e h) : TD Try.prog pm t83 [] Q e X.g :=
  treeOf_any k83 (Φ := fun S e h => X.st (S.map (· + 46)) e h) (xor_step ho hpm) (fun S e h hl hall hs => by
    obtain ⟨h1, ⟨f1, f2, f3, f4⟩, h3, h4, h5⟩ := hs
    rw [List.length_map] at f4
    exact hQ e h h1 ⟨f1, f2, f3, f4.mono (Nat.add_le_add_left hl _)⟩ (h5 (List.mem_map.2 ⟨19, hall 19 (by decide), rfl⟩)))
    ⟨he, ⟨Nat.le_refl _, fun _ _ _ _ => rfl, hbx, hcu⟩, fun k hk => by simp at hk, fun h => by simp at h, fun h => by simp at h⟩
set_option maxHeartbeats 4000000 in
theorem c_spec_l1Cur_system (b : Nat) (c : Option (List UInt8)) (K : Nat) (h : H) (hc : CurI h b c K) (hK : K ≤ 5000000) :
    Call Try.prog 83 [.adr b 0] h (fun b' => b' = b) (fun x h' => SyX h h' b c (K + 2000) x) := by
  refine enter (by kernel_rfl) e83 (by kernel_rfl) rfl fun hok => ?_
  simp only [r83, initEnv_1]
  generalize hB4 : RCode.block 4 _ = B4
  generalize hC : RCode.seq (.reg (⟨some 38, .v (.faddr 1 (.t 3)), none⟩ :: _)) _ = C
  have hbl := hc.lt
  (try (simp (disch := first | omega | (simp <;> omega) | fail) only [push_cast, ↓reduceIte, Nat.reduceEqDiff, Nat.reduceAdd, Nat.reduceMul, Nat.reduceSub, Nat.reduceLT, Int.reduceToNat]))
  refine ⟨rfl, ?_⟩
  refine (c_spec_l1Cur_among b c K (h ++ [some (AObj.cells [.int .i64 0, .nils, .nils]), some (AObj.cells (([3, 6, 10, 20] : List Int).map (.int .i64)))]) (h.length + 1) [3, 6, 10, 20] (hc.frame (List.getElem?_append_left hbl)) (by omega) (by decide) (by decide) (by rw [cells_hk]; rfl) (by omega)).mono (fun x h1 hx => ?_) (fun b' _ hb' => Or.inl hb')
  obtain ⟨⟨sz, rfl, hsz⟩, hs1⟩ := hx
  have hsz2 : 1 < sz ∧ sz ≤ 20 := by simp at hsz; omega
  (try (simp (disch := first | omega | (simp <;> omega) | fail) only [push_cast, ↓reduceIte, Nat.reduceEqDiff, Nat.reduceAdd, Nat.reduceMul, Nat.reduceSub, Nat.reduceLT, Int.reduceToNat]))
  refine (c_spec_l1Cur_pick b c (K + 1) h1 sz hs1.2.2 (by omega) (by omega) (by omega)).mono (fun x h2 hx => ?_) (fun b' _ hb' => Or.inl hb')
  obtain ⟨⟨q, rfl, q0, q1⟩, hs2⟩ := hx
  obtain ⟨nn, hnn⟩ : ∃ nn : Nat, 1 + q = (nn : Int) := ⟨(1 + q).toNat, by omega⟩
  obtain ⟨m, hm⟩ : ∃ m : Nat, m = (nn + 15) / 16 := ⟨_, rfl⟩
  have f0 : h2.cells h.length = some [.int .i64 0, .nils, .nils] := cells_keep (hs2.2.1 _ (by omega)) (cells_keep (hs1.2.1 _ (by omega)) (by rw [cells_h0]; rfl))
  have l2 : h2.length = h.length + 2 := by rw [hs2.1, hs1.1]; simp
  have fk : ∀ k, k < h.length → k ≠ b → h2[k]? = h[k]? := fun k hk hn => (hs2.2.1 k hn).trans ((hs1.2.1 k hn).trans (List.getElem?_append_left hk))
  have hA : SyD h (h2 ++ [some (.cells [.int .i64 nn, .nils, .nils])]) b c (K + 2) h2.length 0 RowP :=
    ⟨hbl, by omega, hs2.2.2.frame (List.getElem?_append_left hs2.2.2.lt), cells_app f0, fun k hk hn => (List.getElem?_append_left (by omega)).trans (fk k hk hn), nn, .nils, .nils, [], [], fun _ => False, [], by rw [cells_h0]; rfl, by omega, by omega, by simp, by simp, .inl ⟨rfl, rfl, rfl⟩, fun _ h => h.elim, S1.nil, by simp, by simp⟩
  have hA2 : SyD h (h2 ++ [some (.cells [.int .i64 nn, .nils, .nils]), some (.cells (([4, 8, 12] : List Int).map (.int .i64)))]) b c (K + 2) h2.length 0 RowP := by
    have := hA.more (l := [some (.cells (([4, 8, 12] : List Int).map (.int .i64)))])
    simpa using this
  have r6 : H.cells (h2 ++ [some (.cells [.int .i64 nn, .nils, .nils]), some (.cells (([4, 8, 12] : List Int).map (.int .i64)))]) h2.length = some [.int .i64 nn, .nils, .nils] := by rw [cells_h0]; rfl
  (try (simp (disch := first | omega | (simp <;> omega) | fail) only [push_cast, ↓reduceIte, Nat.reduceEqDiff, Nat.reduceAdd, Nat.reduceMul, Nat.reduceSub, Nat.reduceLT, Int.reduceToNat, hnn]))
  refine ⟨rfl, ?_⟩
  refine (c_spec_l1Cur_among b c (K + 2) (h2 ++ [some (.cells [.int .i64 nn, .nils, .nils]), some (.cells (([4, 8, 12] : List Int).map (.int .i64)))]) (h2.length + 1) [4, 8, 12] hA2.2.2.1 (by omega) (by decide) (by decide) (by rw [cells_hk]; rfl) (by omega)).mono (fun x h3 hx => ?_) (fun b' _ hb' => Or.inl hb')
  obtain ⟨⟨sz3, rfl, hsz3⟩, hs3⟩ := hx
  have hsz4 : 1 < sz3 ∧ sz3 ≤ 12 := by simp at hsz3; omega
  (try (simp (disch := first | omega | (simp <;> omega) | fail) only [push_cast, ↓reduceIte, Nat.reduceEqDiff, Nat.reduceAdd, Nat.reduceMul, Nat.reduceSub, Nat.reduceLT, Int.reduceToNat]))
  refine (c_spec_l1Cur_pick b c (K + 3) h3 sz3 hs3.2.2 (by omega) (by omega) (by omega)).mono (fun x h4 hx => ?_) (fun b' _ hb' => Or.inl hb')
  obtain ⟨⟨q3, rfl, q30, q31⟩, hs4⟩ := hx
  obtain ⟨mm, rfl⟩ : ∃ mm : Nat, q3 = (mm : Int) := ⟨q3.toNat, by omega⟩
  have hA4 : SyD h h4 b c (K + 4) h2.length 0 RowP := (hA2.step hs3).step hs4
  have r64 : h4.cells h2.length = some [.int .i64 nn, .nils, .nils] := cells_keep (hs4.2.1 _ (by omega)) (cells_keep (hs3.2.1 _ (by omega)) r6)
  have hb3 : h.length + 1 ≤ h2.length := by omega
  clear hA hA2 r6 hs3 hs4 hs1 hs2 f0 fk
  (try (simp (disch := first | omega | (simp <;> omega) | fail) only [push_cast, ↓reduceIte, Nat.reduceEqDiff, Nat.reduceAdd, Nat.reduceMul, Nat.reduceSub, Nat.reduceLT, Int.reduceToNat]))
  generalize h2.length = b3 at *
  refine T_for mm (fun i e h' => ∃ v w, Pins e [(0, .adr b 0), (2, .adr h.length 0), (3, .adr b3 0), (4, .int .i64 ((mm : Int) - i))] ∧ SyD h h' b c (K + 4 + 60 * i) b3 (2 * i) RowP ∧ h'.cells b3 = some [.int .i64 nn, v, w]) ?_ ?_
  · refine ⟨.nils, .nils, ?_, hA4, r64⟩
    (try (simp (disch := first | omega | (simp <;> omega) | fail) only [push_cast, ↓reduceIte, Nat.reduceEqDiff, Nat.reduceAdd, Nat.reduceMul, Nat.reduceSub, Nat.reduceLT, Int.reduceToNat]))
    all_goals (try simp)
  rintro i e g hi ⟨v, w, hp, hA, p6⟩
  refine T_pins hp fun e => ?_
  (try (simp (disch := first | omega | (simp <;> omega) | fail) only [push_cast, ↓reduceIte, Nat.reduceEqDiff, Nat.reduceAdd, Nat.reduceMul, Nat.reduceSub, Nat.reduceLT, Int.reduceToNat]))
  first | refine goC_split (fun hd => ?_) (fun hd => ?_) | refine cnd_split (fun hd => ?_) (fun hd => ?_)
  · (try (simp only [decide_eq_true_eq, decide_eq_false_iff_not, Bool.not_eq_true', Bool.not_eq_false', Bool.and_eq_true, Bool.or_eq_true, Int.not_lt, Int.not_le] at hd)); (try (simp (disch := first | omega | (simp <;> omega) | fail) only [push_cast, ↓reduceIte, Nat.reduceEqDiff, Nat.reduceAdd, Nat.reduceMul, Nat.reduceSub, Nat.reduceLT, Int.reduceToNat]))
    have hi2 : i < mm := by omega
    have hb0 := hA.1
    have hb1 := hA.2.1
    have hb2 := cells_lt p6
    (try (simp (disch := first | omega | (simp <;> omega) | fail) only [push_cast, ↓reduceIte, Nat.reduceEqDiff, Nat.reduceAdd, Nat.reduceMul, Nat.reduceSub, Nat.reduceLT, Int.reduceToNat, p6]))
    refine (c_spec_biNew_own nn m (by omega) (by omega) _).mono (fun x h5 hx => ?_) (fun _ _ h => h.elim)
    obtain ⟨bb, rfl, t1, ⟨p, hp5⟩, t3⟩ := hx
    have hl5 : g.length ≤ h5.length := by rw [hp5]; simp
    have hk5 : ∀ k, k < g.length → h5[k]? = g[k]? := fun k hk => by rw [hp5]; exact List.getElem?_append_left hk
    have hR := RwI.init hA p6 hl5 hk5 t1 t3
    have hbb := cells_lt t3
    clear hp5 t3 hk5
    (try (simp (disch := first | omega | (simp <;> omega) | fail) only [push_cast, ↓reduceIte, Nat.reduceEqDiff, Nat.reduceAdd, Nat.reduceMul, Nat.reduceSub, Nat.reduceLT, Int.reduceToNat]))
    generalize hg6 : h5 ++ [some (.cells [.int .i64 (nn : Int), .sl bb 0 1 m m])] = g6 at *
    generalize h5.length = b5 at *
    refine T_for nn (fun j e g' => ∃ B, Pins e [(0, .adr b 0), (2, .adr h.length 0), (3, .adr b3 0), (4, .int .i64 ((mm : Int) - i)), (5, .adr b5 0), (6, .int .i64 j)] ∧ RwI h g' b c (K + 4 + 60 * i + j) b3 (2 * i) g.length b5 nn m v w bb B) ?_ ?_
    · refine ⟨0, ?_, hR⟩
      (try (simp (disch := first | omega | (simp <;> omega) | fail) only [push_cast, ↓reduceIte, Nat.reduceEqDiff, Nat.reduceAdd, Nat.reduceMul, Nat.reduceSub, Nat.reduceLT, Int.reduceToNat]))
      all_goals (try simp)
    rintro j e g' hj ⟨B, hp, hR⟩
    refine T_pins hp fun e => ?_
    have c3 := hR.2.2.2.1
    (try (simp (disch := first | omega | (simp <;> omega) | fail) only [push_cast, ↓reduceIte, Nat.reduceEqDiff, Nat.reduceAdd, Nat.reduceMul, Nat.reduceSub, Nat.reduceLT, Int.reduceToNat, c3]))
    first | refine goC_split (fun he => ?_) (fun he => ?_) | refine cnd_split (fun he => ?_) (fun he => ?_)
    · (try (simp only [decide_eq_true_eq, decide_eq_false_iff_not, Bool.not_eq_true', Bool.not_eq_false', Bool.and_eq_true, Bool.or_eq_true, Int.not_lt, Int.not_le] at he)); (try (simp (disch := first | omega | (simp <;> omega) | fail) only [push_cast, ↓reduceIte, Nat.reduceEqDiff, Nat.reduceAdd, Nat.reduceMul, Nat.reduceSub, Nat.reduceLT, Int.reduceToNat]))
      refine (c_spec_l1Cur_one b c _ g' 3 hR.cur (by omega) (by omega) (by omega)).mono (fun x g2 hx => ?_) (fun b' _ hb' => Or.inl hb')
      obtain ⟨⟨t, rfl⟩, hs⟩ := hx
      have hR2 := hR.step hs
      cases t
      · (try (simp (disch := first | omega | (simp <;> omega) | fail) only [push_cast, ↓reduceIte, Nat.reduceEqDiff, Nat.reduceAdd, Nat.reduceMul, Nat.reduceSub, Nat.reduceLT, Int.reduceToNat]))
        all_goals (try exact ⟨_, hR2⟩)
      · have c5 := hR2.2.2.2.2.2.2.2.1
        have cb := hR2.2.2.2.2.2.2.2.2
        have cm := hR2.2.2.2.2.2.1
        (try (simp (disch := first | omega | (simp <;> omega) | fail) only [push_cast, ↓reduceIte, Nat.reduceEqDiff, Nat.reduceAdd, Nat.reduceMul, Nat.reduceSub, Nat.reduceLT, Int.reduceToNat, c5]))
        refine (c_spec_biSet nn bb m B j g2 cb (by omega) (by omega)).mono (fun y g3 hy => ?_) (fun b' _ hb' => Or.inr (by omega))
        obtain ⟨y1, y2, y3⟩ := hy
        have hR3 := hR2.put y1 y2 y3
        (try (simp (disch := first | omega | (simp <;> omega) | fail) only [push_cast, ↓reduceIte, Nat.reduceEqDiff, Nat.reduceAdd, Nat.reduceMul, Nat.reduceSub, Nat.reduceLT, Int.reduceToNat]))
        all_goals (try exact ⟨_, hR3⟩)
    · (try (simp only [decide_eq_true_eq, decide_eq_false_iff_not, Bool.not_eq_true', Bool.not_eq_false', Bool.and_eq_true, Bool.or_eq_true, Int.not_lt, Int.not_le] at he)); (try (simp (disch := first | omega | (simp <;> omega) | fail) only [push_cast, ↓reduceIte, Nat.reduceEqDiff, Nat.reduceAdd, Nat.reduceMul, Nat.reduceSub, Nat.reduceLT, Int.reduceToNat]))
      obtain ⟨s1, s2, s3, s4, s5, n', v', w', R, L, G, Bw, q1, q2, q3, q4, q5, q6, q7, q8, q9, q10⟩ := id hR.1
      have q11 := cells_untake q1
      rw [c3] at q11
      injection q11 with q11
      injection q11 with e1 q11
      injection e1 with _ e1
      injection q11 with e2 q11
      injection q11 with e3 _
      subst e1 e2 e3
      have hlv := q6.lenA
      have hjn : j = nn := by omega
      subst hjn
      have hm0 := hR.2.1
      have hmm : (((j : Int) + 15) / 16).toNat = m := by omega
      (try (simp (disch := first | omega | (simp <;> omega) | fail) only [push_cast, ↓reduceIte, Nat.reduceEqDiff, Nat.reduceAdd, Nat.reduceMul, Nat.reduceSub, Nat.reduceLT, Int.reduceToNat]))
      refine T_cut (fun e g2 => ∃ bb B, Pins e [(0, .adr b 0), (2, .adr h.length 0), (3, .adr b3 0), (4, .int .i64 ((mm : Int) - i)), (5, .adr b5 0)] ∧ RwI h g2 b c (K + 4 + 60 * i + j + 21) b3 (2 * i) g.length b5 j m v w bb B) ?_ ?_
      · rw [← hC]
        (try (simp (disch := first | omega | (simp <;> omega) | fail) only [push_cast, ↓reduceIte, Nat.reduceEqDiff, Nat.reduceAdd, Nat.reduceMul, Nat.reduceSub, Nat.reduceLT, Int.reduceToNat, c3, hlv]))
        first | refine goC_split (fun hc => ?_) (fun hc => ?_) | refine cnd_split (fun hc => ?_) (fun hc => ?_)
        · (try (simp only [decide_eq_true_eq, decide_eq_false_iff_not, Bool.not_eq_true', Bool.not_eq_false', Bool.and_eq_true, Bool.or_eq_true, Int.not_lt, Int.not_le] at hc)); (try (simp (disch := first | omega | (simp <;> omega) | fail) only [push_cast, ↓reduceIte, Nat.reduceEqDiff, Nat.reduceAdd, Nat.reduceMul, Nat.reduceSub, Nat.reduceLT, Int.reduceToNat]))
          refine (c_spec_l1Cur_one b c _ g' 3 hR.cur (by omega) (by omega) (by omega)).mono (fun x g2 hx => ?_) (fun b' _ hb' => Or.inl hb')
          obtain ⟨⟨t, rfl⟩, hs⟩ := hx
          have hR2 := hR.step hs
          cases t
          · (try (simp (disch := first | omega | (simp <;> omega) | fail) only [push_cast, ↓reduceIte, Nat.reduceEqDiff, Nat.reduceAdd, Nat.reduceMul, Nat.reduceSub, Nat.reduceLT, Int.reduceToNat]))
            all_goals (try exact ⟨_, _, hR2.mono (by omega)⟩)
          · (try (simp (disch := first | omega | (simp <;> omega) | fail) only [push_cast, ↓reduceIte, Nat.reduceEqDiff, Nat.reduceAdd, Nat.reduceMul, Nat.reduceSub, Nat.reduceLT, Int.reduceToNat]))
            obtain ⟨bo, cs, hv1, hG, hcs⟩ := q6.hd (by omega)
            have hfr : ∀ k, G k → g2[k]? = (g'.take g.length)[k]? := fun k hk => by
              have h1 := (q7 k hk).1
              have h2 := (q7 k hk).2.1
              rw [List.length_take] at h2
              rw [List.getElem?_take, if_pos (by omega)]
              exact hs.2.1 k (by omega)
            have c52 := hR2.2.2.2.2.2.2.2.1
            have hm5 := hR2.2.2.2.2.1
            have l5 := cells_lt c52
            have hbm := hR2.bm
            have hl2 := hR2.2.1
            refine xor_any (X := ⟨g2, b, b3, b5, bo, j, m, K + 4 + 60 * i + j + 1, c, v, .adr h.length 0, .int .i64 ((mm : Int) - i), cs, R⟩) (G := G) ⟨by dsimp only; omega, by dsimp only; omega, l5, by dsimp only; omega, by dsimp only; omega, by dsimp only; omega, by dsimp only; omega, by dsimp only; omega, by dsimp only; omega, q6.frame hfr, fun k hk => ?_, hv1, hG, cells_keep (hfr _ hG) hcs, ⟨_, _, hR2.2.2.2.1⟩, fun r hr => ?_, by dsimp only; omega, by dsimp only; omega, by dsimp only; omega⟩ (fun k hk => ?_) ⟨rfl, rfl, rfl, rfl, rfl⟩ hR2.cur ⟨_, _, c52⟩ fun e' h' he' hf' hb' => ?_
            · have h1 := (q7 k hk).1
              have h2 := (q7 k hk).2.1
              rw [List.length_take] at h2
              exact ⟨by dsimp only; omega, by dsimp only; omega, by dsimp only; omega⟩
            · obtain ⟨B0, hB0⟩ := q10 r hr
              exact ⟨B0, by rw [hB0, hmm]⟩
            · rcases hk with rfl | rfl
              · exact Or.inl rfl
              · exact Or.inr (by omega)
            · obtain ⟨bb2, B2, x1, x2, x3⟩ := hb'
              obtain ⟨a0, a2, a3, a4, a5⟩ := he'
              exact ⟨bb2, B2, ⟨a0, a2, a3, a4, a5⟩, hR2.xor hf'.1 hf'.2.1 hf'.2.2.2 x2 x1 x3⟩
        · (try (simp only [decide_eq_true_eq, decide_eq_false_iff_not, Bool.not_eq_true', Bool.not_eq_false', Bool.and_eq_true, Bool.or_eq_true, Int.not_lt, Int.not_le] at hc)); (try (simp (disch := first | omega | (simp <;> omega) | fail) only [push_cast, ↓reduceIte, Nat.reduceEqDiff, Nat.reduceAdd, Nat.reduceMul, Nat.reduceSub, Nat.reduceLT, Int.reduceToNat]))
          (try (simp (disch := first | omega | (simp <;> omega) | fail) only [push_cast, ↓reduceIte, Nat.reduceEqDiff, Nat.reduceAdd, Nat.reduceMul, Nat.reduceSub, Nat.reduceLT, Int.reduceToNat]))
          all_goals (try exact ⟨_, _, hR.mono (by omega)⟩)
      · rintro e g2 ⟨bb, B, hp, hR⟩
        refine K_pins hp fun e => ?_
        have c3 := hR.2.2.2.1
        have c5 := hR.2.2.2.2.2.2.2.1
        have cb := hR.2.2.2.2.2.2.2.2
        have hm1 := hR.2.1
        have hm2 := hR.2.2.2.2.2.1
        have htl : (g2.take g.length).length = g.length := by rw [List.length_take]; omega
        have htk : ∀ k, k < g.length → (g2.take g.length)[k]? = g2[k]? := fun k hk => by rw [List.getElem?_take, if_pos hk]
        have hfa : fillA (rows [AV.int .i64 0, .nils] 1) [(0, 2, AV.agg [.int .i64 j, .sl bb 0 1 m m])] = some [.int .i64 j, .sl bb 0 1 m m] := rfl
        (try (simp (disch := first | omega | (simp <;> omega) | fail) only [push_cast, ↓reduceIte, Nat.reduceEqDiff, Nat.reduceAdd, Nat.reduceMul, Nat.reduceSub, Nat.reduceLT, Int.reduceToNat, c3, c5, hfa]))
        refine SyD.row (r := ⟨j, some (wordsN B m)⟩) (by_ := 32) hR.1 (cells_take c3 hR.2.2.1) (by rw [htl]; simp only [List.length_append, List.length_cons, List.length_nil]; omega) (fun k hk => ?_) ?_ (by rfl) ⟨B, by rw [hmm]⟩ (fun k hk => Or.inr hk) (by omega) (by omega) fun v2 g3 hS3 c33 l3 o1 o2 => ?_
        · rw [htl] at hk
          rw [htk k hk]
          exact List.getElem?_append_left (by omega)
        · rw [htl]
          refine .atom rfl ?_
          have := ow_map (h := g2 ++ [some (.cells [.int .i64 (j : Int), .sl bb 0 1 m m])]) (f := AV.int .i64) (b := bb) (n := m) (l := wordsN B m) (G := fun k => g.length ≤ k) (fun _ => rfl) (cells_app cb) wordsN_len hm2
          simpa [eI, wordsN_len] using this
        have hc4 := cells_wr2 l3 (cs := [AV.int .i64 (j : Int), v2, w])
        (try (simp (disch := first | omega | (simp <;> omega) | fail) only [push_cast, ↓reduceIte, Nat.reduceEqDiff, Nat.reduceAdd, Nat.reduceMul, Nat.reduceSub, Nat.reduceLT, Int.reduceToNat, c33, o1, o2, hc4, reads, List.mem_cons, List.mem_append, List.not_mem_nil, nat_ff, or_self, or_false, false_or, not_false_eq_true]))
        generalize wr g3 b3 [AV.int .i64 (j : Int), v2, w] = g4 at *
        repeat' (with_reducible refine And.intro ?_ ?_)
        all_goals
          refine (c_spec_l1Cur_one b c _ g4 2 hS3.2.2.1 (by omega) (by omega) (by omega)).mono (fun x g5 hx => ?_) (fun b' _ hb' => Or.inl hb')
          obtain ⟨⟨t, rfl⟩, hs⟩ := hx
          have hS5 := hS3.step hs
          have c55 := cells_keep (hs.2.1 b3 (by omega)) hc4
          have c56 : ∀ l' : H, H.cells (g5 ++ l') b3 = some [.int .i64 j, v2, w] := fun l' => cells_app c55
          (try (simp (disch := first | omega | (simp <;> omega) | fail) only [push_cast, ↓reduceIte, Nat.reduceEqDiff, Nat.reduceAdd, Nat.reduceMul, Nat.reduceSub, Nat.reduceLT, Int.reduceToNat, c55, c56, reads, List.mem_cons, List.mem_append, List.not_mem_nil, nat_ff, or_self, or_false, false_or, not_false_eq_true]))
          repeat' (with_reducible refine And.intro ?_ ?_)
        all_goals
          refine SyD.bit (by_ := 1) hS5 c55 (fun k hk => Or.inr hk) (by omega) (by omega) fun w2 g6 hS6 c6 l6 o3 o4 => ?_
          have hc7 := cells_wr2 l6 (cs := [AV.int .i64 (j : Int), v2, w2])
          (try (simp (disch := first | omega | (simp <;> omega) | fail) only [push_cast, ↓reduceIte, Nat.reduceEqDiff, Nat.reduceAdd, Nat.reduceMul, Nat.reduceSub, Nat.reduceLT, Int.reduceToNat, c6, o3, o4, reads, List.mem_cons, List.mem_append, List.not_mem_nil, nat_ff, or_self, or_false, false_or, not_false_eq_true]))
          all_goals (try exact ⟨v2, w2, hS6.mono (by omega) (by omega), hc7⟩)
          all_goals (try exact ⟨v2, w2, by omega, hS6.mono (by omega) (by omega), hc7⟩)
  · (try (simp only [decide_eq_true_eq, decide_eq_false_iff_not, Bool.not_eq_true', Bool.not_eq_false', Bool.and_eq_true, Bool.or_eq_true, Int.not_lt, Int.not_le] at hd)); (try (simp (disch := first | omega | (simp <;> omega) | fail) only [push_cast, ↓reduceIte, Nat.reduceEqDiff, Nat.reduceAdd, Nat.reduceMul, Nat.reduceSub, Nat.reduceLT, Int.reduceToNat]))
    (try (simp (disch := first | omega | (simp <;> omega) | fail) only [push_cast, ↓reduceIte, Nat.reduceEqDiff, Nat.reduceAdd, Nat.reduceMul, Nat.reduceSub, Nat.reduceLT, Int.reduceToNat]))
    refine (c_spec_l1Cur_pick b c _ g 30 hA.2.2.1 (by omega) (by omega) (by omega)).mono (fun x g2 hx => ?_) (fun b' _ hb' => Or.inl hb')
    obtain ⟨⟨k, rfl, k0, k1⟩, hs⟩ := hx
    have hA2 := (hA.step hs).any
    have hb1 := hA.2.1
    have hb0 := hA.1
    have p62 := cells_keep (hs.2.1 b3 (by omega)) p6
    (try (simp (disch := first | omega | (simp <;> omega) | fail) only [push_cast, ↓reduceIte, Nat.reduceEqDiff, Nat.reduceAdd, Nat.reduceMul, Nat.reduceSub, Nat.reduceLT, Int.reduceToNat]))
    refine T_cut (fun e g => Pins e [(0, .adr b 0), (2, .adr h.length 0), (3, .adr b3 0)] ∧ SyD h g b c (K + 1900) b3 150 AnyP) ?_ ?_
    · rw [← hB4]
      by_cases z0 : k = 0
      · (try (simp (disch := first | omega | (simp <;> omega) | fail) only [push_cast, ↓reduceIte, Nat.reduceEqDiff, Nat.reduceAdd, Nat.reduceMul, Nat.reduceSub, Nat.reduceLT, Int.reduceToNat, z0, p62, reads, List.mem_cons, List.mem_append, List.not_mem_nil, nat_ff, or_self, or_false, false_or, not_false_eq_true]))
        refine SyD.bit (by_ := 1) hA2 p62 (fun k hk => Or.inr hk) (by omega) (by omega) fun w2 g6 hS6 c6 l6 o3 o4 => ?_
        (try (simp (disch := first | omega | (simp <;> omega) | fail) only [push_cast, ↓reduceIte, Nat.reduceEqDiff, Nat.reduceAdd, Nat.reduceMul, Nat.reduceSub, Nat.reduceLT, Int.reduceToNat, c6, o3, o4, reads, List.mem_cons, List.mem_append, List.not_mem_nil, nat_ff, or_self, or_false, false_or, not_false_eq_true]))
        all_goals (try exact hS6.mono (by omega) (by omega))
      by_cases z1 : k = 1
      · (try (simp (disch := first | omega | (simp <;> omega) | fail) only [push_cast, ↓reduceIte, Nat.reduceEqDiff, Nat.reduceAdd, Nat.reduceMul, Nat.reduceSub, Nat.reduceLT, Int.reduceToNat, z1, p62, reads, List.mem_cons, List.mem_append, List.not_mem_nil, nat_ff, or_self, or_false, false_or, not_false_eq_true]))
        repeat' (with_reducible refine And.intro ?_ ?_)
        all_goals
          refine (c_spec_l1Cur_anyBits b c _ g2 hA2.2.2.1 (by omega)).mono (fun x g3 hx => ?_) (fun b' _ hb' => Or.inl hb')
          obtain ⟨n9, l9, bb, rfl, y1, y2, y3, y4, y5, y6⟩ := hx
          have hT := hA2.takeOf y3 y4 y5
          have htl : (g3.take g2.length).length = g2.length := by rw [List.length_take]; omega
          have htk : ∀ k, k < g2.length → (g3.take g2.length)[k]? = g3[k]? := fun k hk => by rw [List.getElem?_take, if_pos hk]
          have lp := cells_lt p62
          have p63 := cells_keep (y4 b3 lp (by omega)) p62
          have p64 : ∀ l' : H, H.cells (g3 ++ l') b3 = some [.int .i64 nn, v, w] := fun l' => cells_app p63
          have hfa : fillA (rows [AV.int .i64 0, .nils] 1) [(0, 2, AV.agg [.int .i64 n9, .sl bb 0 1 l9.length l9.length])] = some [.int .i64 n9, .sl bb 0 1 l9.length l9.length] := rfl
          (try (simp (disch := first | omega | (simp <;> omega) | fail) only [push_cast, ↓reduceIte, Nat.reduceEqDiff, Nat.reduceAdd, Nat.reduceMul, Nat.reduceSub, Nat.reduceLT, Int.reduceToNat, p63, p64, hfa, reads, List.mem_cons, List.mem_append, List.not_mem_nil, nat_ff, or_self, or_false, false_or, not_false_eq_true]))
          repeat' (with_reducible refine And.intro ?_ ?_)
        all_goals
          refine SyD.row (new := [.int .i64 n9, .sl bb 0 1 l9.length l9.length]) (r := ⟨n9, some l9⟩) (by_ := 32) (g1 := g3 ++ [some (.cells [.int .i64 n9, .sl bb 0 1 l9.length l9.length])]) hT (cells_take p63 lp) (by rw [htl]; simp only [List.length_append, List.length_cons, List.length_nil]; omega) (fun k hk => ?_) ?_ (by rfl) trivial (fun k hk => Or.inr hk) (by omega) (by omega) fun v2 g5 hS3 c33 l3 o1 o2 => ?_
          · rw [htl] at hk
            rw [htk k hk]
            exact List.getElem?_append_left (by omega)
          · rw [htl]
            refine .atom rfl ?_
            exact ow_map (h := g3 ++ [some (.cells [.int .i64 n9, .sl bb 0 1 l9.length l9.length])]) (f := AV.int .i64) (b := bb) (l := l9) (G := fun k => g2.length ≤ k) (fun _ => rfl) (cells_app y6) rfl y2
          have hc4 := cells_wr2 l3 (cs := [AV.int .i64 (nn : Int), v2, w])
          (try (simp (disch := first | omega | (simp <;> omega) | fail) only [push_cast, ↓reduceIte, Nat.reduceEqDiff, Nat.reduceAdd, Nat.reduceMul, Nat.reduceSub, Nat.reduceLT, Int.reduceToNat, c33, o1, o2, hc4, reads, List.mem_cons, List.mem_append, List.not_mem_nil, nat_ff, or_self, or_false, false_or, not_false_eq_true]))
          generalize wr g5 b3 [AV.int .i64 (nn : Int), v2, w] = g6 at *
          refine SyD.bit (by_ := 1) hS3 hc4 (fun k hk => Or.inr hk) (by omega) (by omega) fun w2 g7 hS6 c6 l6 o3 o4 => ?_
          (try (simp (disch := first | omega | (simp <;> omega) | fail) only [push_cast, ↓reduceIte, Nat.reduceEqDiff, Nat.reduceAdd, Nat.reduceMul, Nat.reduceSub, Nat.reduceLT, Int.reduceToNat, c6, o3, o4, reads, List.mem_cons, List.mem_append, List.not_mem_nil, nat_ff, or_self, or_false, false_or, not_false_eq_true]))
          all_goals (try exact hS6.mono (by omega) (by omega))
      by_cases z2 : k = 2
      · (try (simp (disch := first | omega | (simp <;> omega) | fail) only [push_cast, ↓reduceIte, Nat.reduceEqDiff, Nat.reduceAdd, Nat.reduceMul, Nat.reduceSub, Nat.reduceLT, Int.reduceToNat, z2, reads, List.mem_cons, List.mem_append, List.not_mem_nil, nat_ff, or_self, or_false, false_or, not_false_eq_true]))
        refine ⟨rfl, ?_⟩
        refine (c_spec_l1Cur_among b c _ (g2 ++ [some (AObj.cells (([0, -1, 72, 73] : List Int).map (.int .i64)))]) g2.length [0, -1, 72, 73] hA2.more.2.2.1 (by omega) (by decide) (by decide) (by rw [cells_h0]; rfl) (by have := hA2.2.2.1.lt; omega)).mono (fun x g3 hx => ?_) (fun b' _ hb' => Or.inl hb')
        obtain ⟨⟨sz, rfl, hsz⟩, hs3⟩ := hx
        have hA3 := hA2.more.step hs3
        have p63 := cells_keep (hs3.2.1 b3 (by omega)) (cells_app p62)
        have hfin := (hA3.size p63 (n2 := sz) (by simp at hsz; omega) (by simp at hsz; omega)).mono (K' := K + 1900) (N' := 150) (by omega) (by omega)
        (try (simp (disch := first | omega | (simp <;> omega) | fail) only [push_cast, ↓reduceIte, Nat.reduceEqDiff, Nat.reduceAdd, Nat.reduceMul, Nat.reduceSub, Nat.reduceLT, Int.reduceToNat, p63, reads, List.mem_cons, List.mem_append, List.not_mem_nil, nat_ff, or_self, or_false, false_or, not_false_eq_true]))
        all_goals (try exact hfin)
      by_cases z3 : k = 3
      · (try (simp (disch := first | omega | (simp <;> omega) | fail) only [push_cast, ↓reduceIte, Nat.reduceEqDiff, Nat.reduceAdd, Nat.reduceMul, Nat.reduceSub, Nat.reduceLT, Int.reduceToNat, z3, reads, List.mem_cons, List.mem_append, List.not_mem_nil, nat_ff, or_self, or_false, false_or, not_false_eq_true]))
        refine (c_spec_l1Cur_pick b c _ g2 45 hA2.2.2.1 (by omega) (by omega) (by omega)).mono (fun x g3 hx => ?_) (fun b' _ hb' => Or.inl hb')
        obtain ⟨⟨q5, rfl, q50, q51⟩, hs5⟩ := hx
        obtain ⟨ff, rfl⟩ : ∃ ff : Nat, q5 = (ff : Int) := ⟨q5.toNat, by omega⟩
        have hA3 := hA2.step hs5
        have p63 := cells_keep (hs5.2.1 b3 (by omega)) p62
        (try (simp (disch := first | omega | (simp <;> omega) | fail) only [push_cast, ↓reduceIte, Nat.reduceEqDiff, Nat.reduceAdd, Nat.reduceMul, Nat.reduceSub, Nat.reduceLT, Int.reduceToNat]))
        refine T_for ff (fun j e h' => ∃ v w, Pins e [(0, .adr b 0), (2, .adr h.length 0), (3, .adr b3 0), (7, .int .i64 ((ff : Int) - j))] ∧ SyD h h' b c (K + 4 + 60 * i + 2 + j) b3 (2 * i + 2 * j) AnyP ∧ h'.cells b3 = some [.int .i64 nn, v, w]) ?_ ?_
        · refine ⟨v, w, ?_, hA3, p63⟩
          (try (simp (disch := first | omega | (simp <;> omega) | fail) only [push_cast, ↓reduceIte, Nat.reduceEqDiff, Nat.reduceAdd, Nat.reduceMul, Nat.reduceSub, Nat.reduceLT, Int.reduceToNat]))
          all_goals (try simp)
        rintro j e g4 hj ⟨v, w, hp, hA4, p64⟩
        refine T_pins hp fun e => ?_
        have lp := cells_lt p64
        have hmost : (if (0 : Int) < (nn : Int) then (nn : Int) else 0) = nn := by split <;> omega
        (try (simp (disch := first | omega | (simp <;> omega) | fail) only [push_cast, ↓reduceIte, Nat.reduceEqDiff, Nat.reduceAdd, Nat.reduceMul, Nat.reduceSub, Nat.reduceLT, Int.reduceToNat, p64]))
        first | refine goC_split (fun he => ?_) (fun he => ?_) | refine cnd_split (fun he => ?_) (fun he => ?_)
        · (try (simp only [decide_eq_true_eq, decide_eq_false_iff_not, Bool.not_eq_true', Bool.not_eq_false', Bool.and_eq_true, Bool.or_eq_true, Int.not_lt, Int.not_le] at he)); (try (simp (disch := first | omega | (simp <;> omega) | fail) only [push_cast, ↓reduceIte, Nat.reduceEqDiff, Nat.reduceAdd, Nat.reduceMul, Nat.reduceSub, Nat.reduceLT, Int.reduceToNat]))
          (try (simp (disch := first | omega | (simp <;> omega) | fail) only [push_cast, ↓reduceIte, Nat.reduceEqDiff, Nat.reduceAdd, Nat.reduceMul, Nat.reduceSub, Nat.reduceLT, Int.reduceToNat, p64, reads, List.mem_cons, List.mem_append, List.not_mem_nil, nat_ff, or_self, or_false, false_or, not_false_eq_true]))
          repeat' (with_reducible refine And.intro ?_ ?_)
          all_goals
            refine (c_spec_l1Most nn 0).call ?_
            rw [hmost]
            (try (simp (disch := first | omega | (simp <;> omega) | fail) only [push_cast, ↓reduceIte, Nat.reduceEqDiff, Nat.reduceAdd, Nat.reduceMul, Nat.reduceSub, Nat.reduceLT, Int.reduceToNat, p64, reads, List.mem_cons, List.mem_append, List.not_mem_nil, nat_ff, or_self, or_false, false_or, not_false_eq_true]))
            repeat' (with_reducible refine And.intro ?_ ?_)
          all_goals
            refine (c_spec_biNew_own nn m (by omega) (by omega) _).mono (fun x h5 hx => ?_) (fun _ _ h => h.elim)
            obtain ⟨bb, rfl, t1, ⟨p, hp5⟩, t3⟩ := hx
            have hl5 : g4.length ≤ h5.length := by rw [hp5]; simp
            have hk5 : ∀ k, k < g4.length → h5[k]? = g4[k]? := fun k hk => by rw [hp5]; exact List.getElem?_append_left hk
            have p65 := cells_keep (hk5 b3 lp) p64
            have p66 : ∀ l' : H, H.cells (h5 ++ l') b3 = some [.int .i64 nn, v, w] := fun l' => cells_app p65
            have hfa : fillA (rows [AV.int .i64 0, .nils] 1) [(0, 2, AV.agg [.int .i64 nn, .sl bb 0 1 m m])] = some [.int .i64 nn, .sl bb 0 1 m m] := rfl
            clear hp5
            (try (simp (disch := first | omega | (simp <;> omega) | fail) only [push_cast, ↓reduceIte, Nat.reduceEqDiff, Nat.reduceAdd, Nat.reduceMul, Nat.reduceSub, Nat.reduceLT, Int.reduceToNat, p65, p66, hfa, reads, List.mem_cons, List.mem_append, List.not_mem_nil, nat_ff, or_self, or_false, false_or, not_false_eq_true]))
            repeat' (with_reducible refine And.intro ?_ ?_)
          all_goals
            refine SyD.row (new := [.int .i64 nn, .sl bb 0 1 m m]) (r := ⟨nn, some (wordsN 0 m)⟩) (by_ := 32) (g1 := h5 ++ [some (.cells [.int .i64 nn, .sl bb 0 1 m m])]) hA4 p64 (by simp only [List.length_append, List.length_cons, List.length_nil]; omega) (fun k hk => (List.getElem?_append_left (by omega)).trans (hk5 k hk)) ?_ (by rfl) trivial (fun k hk => Or.inr hk) (by omega) (by omega) fun v2 g5 hS3 c33 l3 o1 o2 => ?_
            · refine .atom rfl ?_
              have := ow_map (h := h5 ++ [some (.cells [.int .i64 nn, .sl bb 0 1 m m])]) (f := AV.int .i64) (b := bb) (n := m) (l := wordsN 0 m) (G := fun k => g4.length ≤ k) (fun _ => rfl) (cells_app t3) wordsN_len t1
              simpa [eI, wordsN_len] using this
            have hc4 := cells_wr2 l3 (cs := [AV.int .i64 (nn : Int), v2, w])
            (try (simp (disch := first | omega | (simp <;> omega) | fail) only [push_cast, ↓reduceIte, Nat.reduceEqDiff, Nat.reduceAdd, Nat.reduceMul, Nat.reduceSub, Nat.reduceLT, Int.reduceToNat, c33, o1, o2, hc4, reads, List.mem_cons, List.mem_append, List.not_mem_nil, nat_ff, or_self, or_false, false_or, not_false_eq_true]))
            generalize wr g5 b3 [AV.int .i64 (nn : Int), v2, w] = g6 at *
            repeat' (with_reducible refine And.intro ?_ ?_)
            all_goals
              refine (c_spec_l1Cur_one b c _ g6 9 hS3.2.2.1 (by omega) (by omega) (by omega)).mono (fun x g7 hx => ?_) (fun b' _ hb' => Or.inl hb')
              obtain ⟨⟨t, rfl⟩, hs⟩ := hx
              have hS5 := hS3.step hs
              have c55 := cells_keep (hs.2.1 b3 (by omega)) hc4
              have c56 : ∀ l' : H, H.cells (g7 ++ l') b3 = some [.int .i64 nn, v2, w] := fun l' => cells_app c55
              (try (simp (disch := first | omega | (simp <;> omega) | fail) only [push_cast, ↓reduceIte, Nat.reduceEqDiff, Nat.reduceAdd, Nat.reduceMul, Nat.reduceSub, Nat.reduceLT, Int.reduceToNat, c55, c56, reads, List.mem_cons, List.mem_append, List.not_mem_nil, nat_ff, or_self, or_false, false_or, not_false_eq_true]))
              repeat' (with_reducible refine And.intro ?_ ?_)
            all_goals
              refine SyD.bit (by_ := 1) hS5 c55 (fun k hk => Or.inr hk) (by omega) (by omega) fun w2 g8 hS6 c6 l6 o3 o4 => ?_
              have hc7 := cells_wr2 l6 (cs := [AV.int .i64 (nn : Int), v2, w2])
              (try (simp (disch := first | omega | (simp <;> omega) | fail) only [push_cast, ↓reduceIte, Nat.reduceEqDiff, Nat.reduceAdd, Nat.reduceMul, Nat.reduceSub, Nat.reduceLT, Int.reduceToNat, c6, o3, o4, reads, List.mem_cons, List.mem_append, List.not_mem_nil, nat_ff, or_self, or_false, false_or, not_false_eq_true]))
              all_goals (try exact ⟨v2, w2, hS6.mono (by omega) (by omega), hc7⟩)
              all_goals (try exact ⟨v2, w2, by omega, hS6.mono (by omega) (by omega), hc7⟩)
        · (try (simp only [decide_eq_true_eq, decide_eq_false_iff_not, Bool.not_eq_true', Bool.not_eq_false', Bool.and_eq_true, Bool.or_eq_true, Int.not_lt, Int.not_le] at he)); (try (simp (disch := first | omega | (simp <;> omega) | fail) only [push_cast, ↓reduceIte, Nat.reduceEqDiff, Nat.reduceAdd, Nat.reduceMul, Nat.reduceSub, Nat.reduceLT, Int.reduceToNat]))
          have hfin := hA4.mono (K' := K + 1900) (N' := 150) (by omega) (by omega)
          (try (simp (disch := first | omega | (simp <;> omega) | fail) only [push_cast, ↓reduceIte, Nat.reduceEqDiff, Nat.reduceAdd, Nat.reduceMul, Nat.reduceSub, Nat.reduceLT, Int.reduceToNat, reads, List.mem_cons, List.mem_append, List.not_mem_nil, nat_ff, or_self, or_false, false_or, not_false_eq_true]))
          all_goals (try exact hfin)
      have hfin : SyD h g2 b c (K + 1900) b3 150 AnyP := hA2.mono (by omega) (by omega)
      (try (simp (disch := first | omega | (simp <;> omega) | fail) only [push_cast, ↓reduceIte, Nat.reduceEqDiff, Nat.reduceAdd, Nat.reduceMul, Nat.reduceSub, Nat.reduceLT, Int.reduceToNat, z0, z1, z2, z3, reads, List.mem_cons, List.mem_append, List.not_mem_nil, nat_ff, or_self, or_false, false_or, not_false_eq_true]))
      all_goals (try exact hfin)
    · rintro e g ⟨hp, hA3⟩
      refine K_pins hp fun e => ?_
      obtain ⟨p1, p2, p3, p4, p5, n, v, w, R, L, G, Bw, q1, q2, q3, q4, q5, q6, q7, q8, q9, q10⟩ := hA3
      have h0 := cells_lt p4
      have hw := cells_wr2 h0 (cs := [AV.int .i64 n, v, w])
      have hpm : (h.length ≤ h.length) = True := by simp
      have hwk : ∀ k, k ≠ h.length → (wr g h.length [AV.int .i64 n, v, w])[k]? = g[k]? := fun k hk => by
        unfold wr
        rw [List.getElem?_set_ne (Ne.symm hk)]
      have f1 : ∀ k, k < h.length → k ≠ b → (wr g h.length [AV.int .i64 n, v, w])[k]? = h[k]? := fun k hk hn => (hwk k (by omega)).trans (p5 k hk hn)
      have f2 : CurI (wr g h.length [AV.int .i64 n, v, w]) b c (K + 2000) := (p3.frame (hwk b (by omega))).mono (by omega)
      have f4 : h.length ≤ (wr g h.length [AV.int .i64 n, v, w]).length := by simp [wr]; omega
      have hv := q6.cell
      have hwo := q8.one_
      have hX : SyX h (wr g h.length [AV.int .i64 n, v, w]) b c (K + 2000) (.agg [.int .i64 n, v, w]) :=
        ⟨f4, f1, f2, n, v, w, R, L, G, Bw, rfl, q2, q3, q4, q5, q6.frame fun k hg => hwk k (by have := (q7 k hg).1; omega), fun k hg => ⟨by have := (q7 k hg).1; omega, by have := (q7 k hg).2.1; simpa [wr] using this, (q7 k hg).2.2.2⟩, q8.frame fun k hb => hwk k (by have := (q9 k hb).1; omega), fun k hb => by have := (q9 k hb).1; omega⟩
      (try (simp (disch := first | omega | (simp <;> omega) | fail) only [push_cast, ↓reduceIte, Nat.reduceEqDiff, Nat.reduceAdd, Nat.reduceMul, Nat.reduceSub, Nat.reduceLT, Int.reduceToNat, p4, q1, hpm, hw, hv.1, hv.2, hwo.1, hwo.2]))
      all_goals (try exact hX)

end Go.Proofs.Ytgkdnpigbpkehaa.M
