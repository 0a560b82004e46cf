/-
  What the functions return.
-/
import Derived.Test.YtgkdnpigbpkehaaFt
import Derived.Test.YtgkdnpigbpkehaaCs
namespace Go.Proofs.Ytgkdnpigbpkehaa.M
open Go Go.RowKit
set_option linter.unusedVariables false
set_option linter.unusedSimpArgs false
set_option maxRecDepth 4000

theorem Ow.ones {h : H} {cs ts : List AV} {G : Nat → Prop} (ho : Ow h cs ts G) : ts.all one = true → cs.all one = true := by
  induction ho with
  | nil => intro h; exact h
  | atom ha _ ih =>
    intro h
    simp only [List.all_cons, Bool.and_eq_true] at h ⊢
    exact ⟨h.1, ih h.2⟩
  | sl hc hl h1 hi hr hb hF hF' ih1 ih2 =>
    intro h
    simp only [List.all_cons, Bool.and_eq_true] at h ⊢
    exact ⟨rfl, ih2 h.2⟩
  | agg hi hr hF hF' ih1 ih2 =>
    intro h
    simp only [List.all_cons, Bool.and_eq_true] at h
    cases h.1
  | tup hi hr hF hF' ih1 ih2 =>
    intro h
    simp only [List.all_cons, Bool.and_eq_true] at h
    cases h.1
/-- A row that is there: its two cells. -/
theorem OwG.row2 {h : H} {G : Nat → Prop} {v : AV} {R : List Bt} {i : Nat} (ho : OwG h G 2 v R.length (R.flatMap cB)) (hi : i < R.length) : ∃ bo cs x0 x1, v = .sl bo 0 2 R.length R.length ∧ G bo ∧ h.cells bo = some cs ∧ ld true 2 cs (i * 2) = some (.agg [x0, x1]) ∧ one x0 = true ∧ one x1 = true ∧ ∀ h' : H, (∀ k, G k → h'[k]? = h[k]?) → Vw h' 0 (.agg [x0, x1]) (eB (R.getD i default)) := by
  rcases ho with ⟨_, h0, _⟩ | ho
  · omega
  obtain ⟨b, cs, F, rfl, hc, hcl, hbn, hF, hin, hre⟩ := ho.open_
  have hfl : (R.flatMap cB).length = R.length * 2 := by rw [hin.len, hcl]
  have h0 : i * 2 < cs.length := by omega
  have h1 : i * 2 + 1 < cs.length := by omega
  have hon : cs.all one = true := hin.ones (by
    rw [List.all_eq_true]
    intro x hx
    obtain ⟨r, _, hr⟩ := List.mem_flatMap.1 hx
    simp only [cB, List.mem_cons, List.not_mem_nil, or_false] at hr
    rcases hr with rfl | rfl
    · rfl
    · cases r.words <;> rfl)
  rw [List.all_eq_true] at hon
  have he : (cs.drop (i * 2)).take 2 = [cs[i * 2], cs[i * 2 + 1]] := by
    rw [List.drop_eq_getElem_cons h0, List.drop_eq_getElem_cons h1]
    rfl
  refine ⟨b, cs, cs[i * 2], cs[i * 2 + 1], rfl, hbn, hc, ?_, hon _ (List.getElem_mem _), hon _ (List.getElem_mem _), fun h' hk => ?_⟩
  · unfold ld
    rw [if_pos rfl, if_pos (by omega), he]
  · have hin' := hin.frame fun c hc => hk c (hF c hc).1
    refine .agg rfl fun j y t hy ht => ?_
    have hj : j < 2 := by
      have := (List.getElem?_eq_some_iff.1 ht).1
      simpa [cB] using this
    rw [← he, List.getElem?_take, if_pos hj, List.getElem?_drop] at hy
    exact hin'.vw (n0 := 0) (fun _ _ => Nat.zero_le _) (i * 2 + j) y t hy ((flatMap_get cB_len default hi hj).trans ht)
theorem OwG.vwB {h : H} {G : Nat → Prop} {n0 : Nat} {v : AV} {R : List Bt} (ho : OwG h G 2 v R.length (R.flatMap cB)) (hG : ∀ k, G k → n0 ≤ k) : ∃ o, Vw h n0 v (eBS o) ∧ lB o = R := by
  rcases ho with ⟨rfl, h0, _⟩ | ho
  · exact ⟨none, .free free_nils, (List.eq_nil_of_length_eq_zero h0).symm⟩
  · exact ⟨some R, ho.vw1 hG, rfl⟩
/-- A drawn system in a box of the call's own. -/
def DsI (h g : H) (b : Nat) (c : Option (List UInt8)) (K b4 : Nat) (n : Int) (v w : AV) (R : List Bt) (L : List Bool) (G : Nat → Prop) (Bw : List Nat) : Prop :=
  h.length + 2 ≤ g.length ∧ g.cells h.length = some [.int .i64 0, .nils, .nils] ∧ b = h.length + 1 ∧ CurI g b c K ∧ h.length + 2 ≤ b4 ∧ g.cells b4 = some [.int .i64 n, v, w] ∧ -1 ≤ n ∧ n ≤ 73 ∧ R.length ≤ 150 ∧ L.length ≤ 150 ∧
  OwG g G 2 v R.length (R.flatMap cB) ∧ (∀ k, G k → h.length + 2 ≤ k ∧ k < g.length ∧ k ≠ b4 ∧ k ∉ Bw) ∧ S1 g 1 w L.length (L.map .bool) Bw ∧ ∀ k ∈ Bw, h.length + 2 ≤ k ∧ k ≠ b4
theorem DsI.keep {h g g2 : H} {b K K' b4 : Nat} {c : Option (List UInt8)} {n : Int} {v w : AV} {R : List Bt} {L : List Bool} {G : Nat → Prop} {Bw : List Nat} (hd : DsI h g b c K b4 n v w R L G Bw) (hl : g.length ≤ g2.length) (hk : ∀ k, k < g.length → k ≠ b → g2[k]? = g[k]?) (hc : CurI g2 b c K') : DsI h g2 b c K' b4 n v w R L G Bw := by
  obtain ⟨d1, d2, d3, d4, d5, d6, d7, d8, d9, d10, d11, d12, d13, d14⟩ := hd
  exact ⟨by omega, cells_keep (hk _ (by omega) (by omega)) d2, d3, hc, d5, cells_keep (hk _ (cells_lt d6) (by omega)) d6, d7, d8, d9, d10, d11.frame fun k hg => hk k (d12 k hg).2.1 (by have := (d12 k hg).1; omega), fun k hg => ⟨(d12 k hg).1, by have := (d12 k hg).2.1; omega, (d12 k hg).2.2⟩, d13.frame fun k hb => hk k (d13.lt k hb) (by have := (d14 k hb).1; omega), d14⟩
theorem DsI.keepX {h g g2 : H} {b K K' b4 : Nat} {c : Option (List UInt8)} {n : Int} {v w : AV} {R : List Bt} {L : List Bool} {G : Nat → Prop} {Bw : List Nat} (hd : DsI h g b c K b4 n v w R L G Bw) (hl : g.length ≤ g2.length) (hk : ∀ k, k = h.length ∨ k = b4 ∨ G k ∨ k ∈ Bw → g2[k]? = g[k]?) (hc : CurI g2 b c K') : DsI h g2 b c K' b4 n v w R L G Bw := by
  obtain ⟨d1, d2, d3, d4, d5, d6, d7, d8, d9, d10, d11, d12, d13, d14⟩ := hd
  exact ⟨by omega, cells_keep (hk _ (.inl rfl)) d2, d3, hc, d5, cells_keep (hk _ (.inr (.inl rfl))) d6, d7, d8, d9, d10, d11.frame fun k hg => hk k (.inr (.inr (.inl hg))), fun k hg => ⟨(d12 k hg).1, by have := (d12 k hg).2.1; omega, (d12 k hg).2.2⟩, d13.frame fun k hb => hk k (.inr (.inr (.inr hb))), d14⟩
/-- What blocks a drawn system leans on. -/
theorem DsI.far {h g : H} {b K b4 : Nat} {c : Option (List UInt8)} {n : Int} {v w : AV} {R : List Bt} {L : List Bool} {G : Nat → Prop} {Bw : List Nat} (hd : DsI h g b c K b4 n v w R L G Bw) {k : Nat} (hk : k = h.length ∨ k = b4 ∨ G k ∨ k ∈ Bw) : k < g.length ∧ k ≠ b := by
  obtain ⟨d1, d2, d3, d4, d5, d6, d7, d8, d9, d10, d11, d12, d13, d14⟩ := hd
  rcases hk with rfl | rfl | hk | hk
  · omega
  · have := cells_lt d6; omega
  · have := d12 k hk; omega
  · have h1 := d13.lt k hk
    have h2 := d14 k hk
    omega
theorem DsI.step {h g g2 : H} {b K K' b4 : Nat} {c : Option (List UInt8)} {n : Int} {v w : AV} {R : List Bt} {L : List Bool} {G : Nat → Prop} {Bw : List Nat} (hd : DsI h g b c K b4 n v w R L G Bw) (hs : CurS g g2 b c K') : DsI h g2 b c K' b4 n v w R L G Bw :=
  hd.keep (by rw [hs.1]; exact Nat.le_refl _) (fun k _ hn => hs.2.1 k hn) hs.2.2
theorem DsI.cur {h g : H} {b K b4 : Nat} {c : Option (List UInt8)} {n : Int} {v w : AV} {R : List Bt} {L : List Bool} {G : Nat → Prop} {Bw : List Nat} (hd : DsI h g b c K b4 n v w R L G Bw) : CurI g b c K := hd.2.2.2.1
theorem DsI.more {h g l : H} {b K b4 : Nat} {c : Option (List UInt8)} {n : Int} {v w : AV} {R : List Bt} {L : List Bool} {G : Nat → Prop} {Bw : List Nat} (hd : DsI h g b c K b4 n v w R L G Bw) : DsI h (g ++ l) b c K b4 n v w R L G Bw :=
  hd.keep (by simp) (fun k hk _ => List.getElem?_append_left hk) (hd.cur.frame (List.getElem?_append_left hd.cur.lt))
theorem DsI.mono {h g : H} {b K K' b4 : Nat} {c : Option (List UInt8)} {n : Int} {v w : AV} {R : List Bt} {L : List Bool} {G : Nat → Prop} {Bw : List Nat} (hd : DsI h g b c K b4 n v w R L G Bw) (hk : K ≤ K') : DsI h g b c K' b4 n v w R L G Bw :=
  hd.keep (Nat.le_refl _) (fun _ _ _ => rfl) (hd.cur.mono hk)
theorem DsI.at4 {h g : H} {b K b4 : Nat} {c : Option (List UInt8)} {n : Int} {v w : AV} {R : List Bt} {L : List Bool} {G : Nat → Prop} {Bw : List Nat} (hd : DsI h g b c K b4 n v w R L G Bw) : g.cells b4 = some [.int .i64 n, v, w] := hd.2.2.2.2.2.1
theorem DsI.vw {h g : H} {b K b4 : Nat} {c : Option (List UInt8)} {n : Int} {v w : AV} {R : List Bt} {L : List Bool} {G : Nat → Prop} {Bw : List Nat} (hd : DsI h g b c K b4 n v w R L G Bw) {n0 : Nat} (h0 : n0 ≤ h.length + 2) : ∃ s : Sy, s.size = n ∧ lB s.rows = R ∧ lO s.right = L ∧ Vw g n0 (.agg [.int .i64 n, v, w]) (eSy s) := by
  obtain ⟨d1, d2, d3, d4, d5, d6, d7, d8, d9, d10, d11, d12, d13, d14⟩ := hd
  obtain ⟨o, ho, ho2⟩ := d11.vwB (n0 := n0) fun k hg => by have := (d12 k hg).1; omega
  obtain ⟨p, hp, hp2⟩ := d13.vwB0 (n0 := n0) fun k hb => by have := (d14 k hb).1; omega
  refine ⟨⟨n, o, p⟩, rfl, ho2, hp2, .agg rfl fun j y t hy ht => ?_⟩
  rcases j with _ | _ | _ | j
  · simp at hy ht
    subst hy ht
    exact .free free_int
  · simp at hy ht
    subst hy ht
    exact ho
  · simp at hy ht
    subst hy ht
    exact hp
  · simp at hy
/-- A right side is put over. -/
theorem DsI.right {h g : H} {b K b4 i : Nat} {c : Option (List UInt8)} {n : Int} {v w : AV} {R : List Bt} {L : List Bool} {G : Nat → Prop} {Bw : List Nat} (hd : DsI h g b c K b4 n v w R L G Bw) (hi : i < L.length) : ∃ bw, w = .sl bw 0 1 L.length L.length ∧ Bw = [bw] ∧ g.cells bw = some (L.map .bool) ∧ h.length + 2 ≤ bw ∧ bw ≠ b4 ∧ ∀ q, DsI h (wr g bw ((L.set i q).map .bool)) b c K b4 n v w R (L.set i q) G Bw := by
  obtain ⟨d1, d2, d3, d4, d5, d6, d7, d8, d9, d10, d11, d12, d13, d14⟩ := hd
  rcases d13.2 with ⟨_, h0, _⟩ | ⟨bw, rfl, rfl, hc⟩
  · omega
  have hb := d14 bw (by simp)
  have hlt := cells_lt hc
  refine ⟨bw, rfl, rfl, hc, hb.1, hb.2, fun q => ?_⟩
  have hw : ∀ (cs : List AV) k, k ≠ bw → (wr g bw cs)[k]? = g[k]? := fun cs k hk => by
    unfold wr
    rw [List.getElem?_set_ne (Ne.symm hk)]
  refine ⟨by simpa [wr] using d1, cells_keep (hw _ _ (by omega)) d2, d3, d4.frame (hw _ _ (by omega)), d5, cells_keep (hw _ _ (Ne.symm hb.2)) d6, d7, d8, d9, by simpa using d10, d11.frame fun k hg => hw _ k (by have := (d12 k hg).2.2.2; simpa using this), fun k hg => ⟨(d12 k hg).1, by have := (d12 k hg).2.1; simpa [wr] using this, (d12 k hg).2.2⟩, ?_, d14⟩
  rw [List.length_set]
  exact ⟨by simp, .inr ⟨bw, rfl, rfl, cells_wr2 hlt⟩⟩
theorem DsI.init {h g : H} {c : Option (List UInt8)} {K : Nat} {x : AV} (hx : SyX (h ++ [some (.cells [.int .i64 0, .nils, .nils]), some (.cells [eU c, .int .i64 0, .int .u64 0])]) g (h.length + 1) c K x) :
    ∃ n v w R L G Bw, x = .agg [.int .i64 n, v, w] ∧ one v = true ∧ one w = true ∧ cellsOf v = [v] ∧ cellsOf w = [w] ∧ DsI h (g ++ [some (.cells [.int .i64 n, v, w])]) (h.length + 1) c K g.length n v w R L G Bw := by
  obtain ⟨x1, x2, x3, n, v, w, R, L, G, Bw, rfl, q2, q3, q4, q5, q6, q7, q8, q9⟩ := hx
  simp only [List.length_append, List.length_cons, List.length_nil] at x1 x2 q7 q9
  refine ⟨n, v, w, R, L, G, Bw, rfl, q6.cell.1, q8.one_.1, q6.cell.2, q8.one_.2, by simp; omega, cells_app (cells_keep (x2 h.length (by omega) (by omega)) (by rw [cells_h0]; rfl)), rfl, x3.frame (List.getElem?_append_left (by omega)), by omega, by rw [cells_h0]; rfl, q2, q3, q4, q5, q6.frame fun k hg => List.getElem?_append_left (q7 k hg).2.1, fun k hg => ⟨(q7 k hg).1, by have := (q7 k hg).2.1; simp; omega, by have := (q7 k hg).2.1; omega, (q7 k hg).2.2⟩, q8.frame fun k hb => List.getElem?_append_left (q8.lt k hb), fun k hb => ⟨q9 k hb, by have := q8.lt k hb; omega⟩⟩

set_option maxHeartbeats 4000000 in
theorem c_spec_DrawSolveSystem (c : Option (List UInt8)) : Fn Try.prog 44 [eU c] (fun x => ∃ s : Sy, x = eSy s) := by
  refine Fn.froze_ fun h => ?_
  refine enter (by kernel_rfl) e44 (by kernel_rfl) rfl fun hok => ?_
  simp only [r44, initEnv_1]
  generalize hC : RCode.seq (.reg (⟨some 14, .v (.load true 3 (.t 4)), none⟩ :: _)) _ = C
  have hfb : fillA [.nils, .int .i64 0, .int .u64 0] [(0, 1, eU c)] = some [eU c, .int .i64 0, .int .u64 0] := by cases c <;> rfl
  (try (simp (disch := first | omega | (simp <;> omega) | fail) only [push_cast, ↓reduceIte, Nat.reduceEqDiff, Nat.reduceAdd, Nat.reduceMul, Nat.reduceSub, Nat.reduceLT, Int.reduceToNat, hfb]))
  refine (c_spec_l1Cur_system (h.length + 1) c 0 (h ++ [some (.cells [.int .i64 0, .nils, .nils]), some (.cells [eU c, .int .i64 0, .int .u64 0])]) ⟨0, 0, by rw [cells_hk]; rfl, Nat.le_refl _⟩ (by omega)).mono (fun x g0 hx => ?_) (fun b' _ hb' => Or.inr (Nat.le_trans (Nat.le_succ _) (Nat.le_of_eq hb'.symm)))
  obtain ⟨n, v, w, R, L, G, Bw, rfl, v1, w1, v2, w2, hD⟩ := DsI.init hx
  have hb4 := hD.2.2.2.2.1
  (try (simp (disch := first | omega | (simp <;> omega) | fail) only [push_cast, ↓reduceIte, Nat.reduceEqDiff, Nat.reduceAdd, Nat.reduceMul, Nat.reduceSub, Nat.reduceLT, Int.reduceToNat, v1, w1, v2, w2]))
  generalize hg1 : g0 ++ [some (.cells [.int .i64 n, v, w])] = g1 at *
  generalize g0.length = b4 at *
  clear hx hg1
  refine T_cut (fun e g => ∃ L K, Pins e [(2, .adr h.length 0), (4, .adr b4 0)] ∧ DsI h g (h.length + 1) c K b4 n v w R L G Bw) ?_ ?_
  · rw [← hC]
    have c4 := hD.at4
    obtain ⟨s, sn, sR, sL, hv⟩ := hD.vw (n0 := 0) (by omega)
    (try (simp (disch := first | omega | (simp <;> omega) | fail) only [push_cast, ↓reduceIte, Nat.reduceEqDiff, Nat.reduceAdd, Nat.reduceMul, Nat.reduceSub, Nat.reduceLT, Int.reduceToNat, c4]))
    refine (c_spec_reGood s).lendL (.cons hv .nil) own_bool ?_
    cases hk : okSy s
    · (try (simp (disch := first | omega | (simp <;> omega) | fail) only [push_cast, ↓reduceIte, Nat.reduceEqDiff, Nat.reduceAdd, Nat.reduceMul, Nat.reduceSub, Nat.reduceLT, Int.reduceToNat, c4]))
      all_goals (try exact ⟨_, _, hD⟩)
    obtain ⟨m, ho⟩ := okE_n hk
    have hok2 := hk
    simp only [okSy, Bool.and_eq_true, decide_eq_true_eq] at hok2
    obtain ⟨⟨n1, n2⟩, r1, r2, r3⟩ := hok2
    rw [sn] at n1 n2
    rw [sR] at r1 r2 r3
    rw [sL] at r2
    rw [sn] at r3
    obtain ⟨nn, rfl⟩ : ∃ nn : Nat, n = (nn : Int) := ⟨n.toNat, by omega⟩
    (try (simp (disch := first | omega | (simp <;> omega) | fail) only [push_cast, ↓reduceIte, Nat.reduceEqDiff, Nat.reduceAdd, Nat.reduceMul, Nat.reduceSub, Nat.reduceLT, Int.reduceToNat, c4]))
    refine (c_spec_l1Cur_one (h.length + 1) c _ g1 3 hD.cur (by omega) (by omega) (by omega)).mono (fun x g2 hx => ?_) (fun b' _ hb' => Or.inr (by omega))
    obtain ⟨⟨t, rfl⟩, hs⟩ := hx
    have hD2 := hD.step hs
    cases t
    case true =>
      (try (simp (disch := first | omega | (simp <;> omega) | fail) only [push_cast, ↓reduceIte, Nat.reduceEqDiff, Nat.reduceAdd, Nat.reduceMul, Nat.reduceSub, Nat.reduceLT, Int.reduceToNat]))
      all_goals (try exact ⟨_, _, hD2⟩)
    have c42 := hD2.at4
    obtain ⟨m, hm⟩ : ∃ m : Nat, m = (nn + 15) / 16 := ⟨_, rfl⟩
    (try (simp (disch := first | omega | (simp <;> omega) | fail) only [push_cast, ↓reduceIte, Nat.reduceEqDiff, Nat.reduceAdd, Nat.reduceMul, Nat.reduceSub, Nat.reduceLT, Int.reduceToNat, c42]))
    refine (c_spec_biNew_own nn m (by omega) (by omega) _).mono (fun x h5 hx => ?_) (fun _ _ h => h.elim)
    obtain ⟨bb, rfl, t1, ⟨p, hp5⟩, t3⟩ := hx
    have hl5 : g2.length ≤ h5.length := by rw [hp5]; simp
    have hD5 : DsI h h5 (h.length + 1) c (0 + 2000 + 1) b4 nn v w R L G Bw := by rw [hp5]; exact hD2.more
    have hfar : ∀ {k}, k = h.length ∨ k = b4 ∨ G k ∨ k ∈ Bw → k < g2.length := fun hk => (hD2.far hk).1
    have hcl := hD2.cur.lt
    have hbb := cells_lt t3
    clear hp5
    have hD6 := hD5.more (l := [some (.cells [.int .i64 nn, .sl bb 0 1 m m])])
    have c5 : H.cells (h5 ++ [some (.cells [.int .i64 nn, .sl bb 0 1 m m])]) h5.length = some [.int .i64 nn, .sl bb 0 1 m m] := by rw [cells_h0]; rfl
    have cb : H.cells (h5 ++ [some (.cells [.int .i64 nn, .sl bb 0 1 m m])]) bb = some ((wordsN 0 m).map (.int .i64)) := cells_app t3
    have h05 : h.length ≤ h5.length := by omega
    (try (simp (disch := first | omega | (simp <;> omega) | fail) only [push_cast, ↓reduceIte, Nat.reduceEqDiff, Nat.reduceAdd, Nat.reduceMul, Nat.reduceSub, Nat.reduceLT, Int.reduceToNat]))
    generalize h5 ++ [some (.cells [.int .i64 (nn : Int), .sl bb 0 1 m m])] = g3 at *
    generalize h5.length = b5 at *
    refine T_for nn (fun j e g' => ∃ B, Pins e [(2, .adr h.length 0), (3, .adr (h.length + 1) 0), (4, .adr b4 0), (5, .adr b5 0), (6, .int .i64 j)] ∧ DsI h g' (h.length + 1) c (0 + 2000 + 1 + j) b4 nn v w R L G Bw ∧ g'.cells b5 = some [.int .i64 nn, .sl bb 0 1 m m] ∧ g'.cells bb = some ((wordsN B m).map (.int .i64))) ?_ ?_
    · refine ⟨0, ?_, hD6, c5, cb⟩
      (try (simp (disch := first | omega | (simp <;> omega) | fail) only [push_cast, ↓reduceIte, Nat.reduceEqDiff, Nat.reduceAdd, Nat.reduceMul, Nat.reduceSub, Nat.reduceLT, Int.reduceToNat]))
      all_goals (try simp)
    rintro j e g4 hj ⟨B, hp, hD7, c57, cb7⟩
    refine T_pins hp fun e => ?_
    have c47 := hD7.at4
    (try (simp (disch := first | omega | (simp <;> omega) | fail) only [push_cast, ↓reduceIte, Nat.reduceEqDiff, Nat.reduceAdd, Nat.reduceMul, Nat.reduceSub, Nat.reduceLT, Int.reduceToNat, c47]))
    first | refine goC_split (fun hc => ?_) (fun hc => ?_) | refine cnd_split (fun hc => ?_) (fun hc => ?_)
    · (try (simp only [decide_eq_true_eq, decide_eq_false_iff_not, Bool.not_eq_true', Bool.not_eq_false', Bool.and_eq_true, Bool.or_eq_true, Int.not_lt, Int.not_le] at hc)); (try (simp (disch := first | omega | (simp <;> omega) | fail) only [push_cast, ↓reduceIte, Nat.reduceEqDiff, Nat.reduceAdd, Nat.reduceMul, Nat.reduceSub, Nat.reduceLT, Int.reduceToNat]))
      refine (c_spec_l1Cur_one (h.length + 1) c _ g4 2 hD7.cur (by omega) (by omega) (by omega)).mono (fun x g5 hx => ?_) (fun b' _ hb' => Or.inr (by omega))
      obtain ⟨⟨t, rfl⟩, hs⟩ := hx
      have hD8 := hD7.step hs
      have c58 := cells_keep (hs.2.1 b5 (by omega)) c57
      have cb8 := cells_keep (hs.2.1 bb (by omega)) cb7
      cases t
      · (try (simp (disch := first | omega | (simp <;> omega) | fail) only [push_cast, ↓reduceIte, Nat.reduceEqDiff, Nat.reduceAdd, Nat.reduceMul, Nat.reduceSub, Nat.reduceLT, Int.reduceToNat]))
        all_goals (try exact ⟨_, hD8, c58, cb8⟩)
      · (try (simp (disch := first | omega | (simp <;> omega) | fail) only [push_cast, ↓reduceIte, Nat.reduceEqDiff, Nat.reduceAdd, Nat.reduceMul, Nat.reduceSub, Nat.reduceLT, Int.reduceToNat, c58]))
        refine (c_spec_biSet nn bb m B j g5 cb8 (by omega) (by omega)).mono (fun y g6 hy => ?_) (fun b' _ hb' => Or.inr (by omega))
        obtain ⟨y1, y2, y3⟩ := hy
        have l5 := cells_lt c58
        have hD9 : DsI h g6 (h.length + 1) c (0 + 2000 + 1 + (j + 1)) b4 nn v w R L G Bw := hD8.keepX y1 (fun k hk => y2 k (hD8.far hk).1 (by have := hfar hk; omega)) (hD8.cur.frame (y2 _ hD8.cur.lt (by omega)))
        have c59 := cells_keep (y2 _ l5 (by omega)) c58
        (try (simp (disch := first | omega | (simp <;> omega) | fail) only [push_cast, ↓reduceIte, Nat.reduceEqDiff, Nat.reduceAdd, Nat.reduceMul, Nat.reduceSub, Nat.reduceLT, Int.reduceToNat]))
        all_goals (try exact ⟨_, hD9, c59, y3⟩)
    · (try (simp only [decide_eq_true_eq, decide_eq_false_iff_not, Bool.not_eq_true', Bool.not_eq_false', Bool.and_eq_true, Bool.or_eq_true, Int.not_lt, Int.not_le] at hc)); (try (simp (disch := first | omega | (simp <;> omega) | fail) only [push_cast, ↓reduceIte, Nat.reduceEqDiff, Nat.reduceAdd, Nat.reduceMul, Nat.reduceSub, Nat.reduceLT, Int.reduceToNat]))
      have hlv := hD7.2.2.2.2.2.2.2.2.2.2.1.lenA
      (try (simp (disch := first | omega | (simp <;> omega) | fail) only [push_cast, ↓reduceIte, Nat.reduceEqDiff, Nat.reduceAdd, Nat.reduceMul, Nat.reduceSub, Nat.reduceLT, Int.reduceToNat, c47, hlv]))
      refine T_for R.length (fun i e g' => ∃ L', Pins e [(2, .adr h.length 0), (4, .adr b4 0), (5, .adr b5 0), (36, v), (37, .int .i64 R.length), (38, .int .i64 i)] ∧ DsI h g' (h.length + 1) c (0 + 2000 + 1 + j) b4 nn v w R L' G Bw ∧ L'.length = R.length ∧ g'.cells b5 = some [.int .i64 nn, .sl bb 0 1 m m] ∧ g'.cells bb = some ((wordsN B m).map (.int .i64))) ?_ ?_
      · refine ⟨L, ?_, hD7, by omega, c57, cb7⟩
        (try (simp (disch := first | omega | (simp <;> omega) | fail) only [push_cast, ↓reduceIte, Nat.reduceEqDiff, Nat.reduceAdd, Nat.reduceMul, Nat.reduceSub, Nat.reduceLT, Int.reduceToNat]))
        all_goals (try simp)
      rintro i e g5 hi ⟨L', hp, hD8, hL', c58, cb8⟩
      refine T_pins hp fun e => ?_
      (try (simp (disch := first | omega | (simp <;> omega) | fail) only [push_cast, ↓reduceIte, Nat.reduceEqDiff, Nat.reduceAdd, Nat.reduceMul, Nat.reduceSub, Nat.reduceLT, Int.reduceToNat]))
      first | refine goC_split (fun hd => ?_) (fun hd => ?_) | refine cnd_split (fun hd => ?_) (fun hd => ?_)
      · (try (simp only [decide_eq_true_eq, decide_eq_false_iff_not, Bool.not_eq_true', Bool.not_eq_false', Bool.and_eq_true, Bool.or_eq_true, Int.not_lt, Int.not_le] at hd)); (try (simp (disch := first | omega | (simp <;> omega) | fail) only [push_cast, ↓reduceIte, Nat.reduceEqDiff, Nat.reduceAdd, Nat.reduceMul, Nat.reduceSub, Nat.reduceLT, Int.reduceToNat]))
        have hi2 : i < R.length := by omega
        obtain ⟨bo, cs, x0, x1, e1, e2, e3, e4, o0, o1, e5⟩ := hD8.2.2.2.2.2.2.2.2.2.2.1.row2 hi2
        have hia : iaddrA 2 v (.int .i64 i) = some (.adr bo (i * 2)) := by
          rw [e1, iaddrA_sl (by omega) (by omega)]
          simp
        have hrow := List.all_eq_true.1 r3 _ (getD_mem (d := default) hi2)
        simp only [okRow, Bool.and_eq_true, decide_eq_true_eq] at hrow
        obtain ⟨hrow1, hrow2⟩ := hrow
        obtain ⟨k1, k2, k3, k4⟩ := okBt_num hrow1
        have hrm : (lI (R.getD i default).words).length = m := by rw [hrow2] at k4; omega
        rw [hrm] at k1
        have hre : R.getD i default = ⟨(nn : Int), (R.getD i default).words⟩ := by
          rw [← hrow2]
        have hD9 := hD8.more (l := [some (.cells [x0, x1])])
        have c49 := hD9.at4
        have c59 : H.cells (g5 ++ [some (.cells [x0, x1])]) b5 = some [.int .i64 nn, .sl bb 0 1 m m] := cells_app c58
        have cb9 : H.cells (g5 ++ [some (.cells [x0, x1])]) bb = some ((wordsN B m).map (.int .i64)) := cells_app cb8
        have c89 : H.cells (g5 ++ [some (.cells [x0, x1])]) g5.length = some [x0, x1] := by rw [cells_h0]; rfl
        have hvr : Vw (g5 ++ [some (.cells [x0, x1])]) 0 (.agg [x0, x1]) (eB ⟨(nn : Int), (R.getD i default).words⟩) := by
          rw [← hre]
          exact e5 _ fun k hk => List.getElem?_append_left (hD8.far (.inr (.inr (.inl hk)))).1
        have hvx := vw_B (n0 := 0) (n := (nn : Int)) (Nat.zero_le _) cb9 wordsN_len
        obtain ⟨bw, hw1, hw2, hw3, hw4, hw5, hput⟩ := hD9.right (i := i) (by omega)
        have hiw : iaddrA 1 w (.int .i64 i) = some (.adr bw i) := by
          rw [hw1, iaddrA_sl (by omega) (by omega)]
          simp
        have hov : ∀ q, over (L'.map AV.bool) i [.bool q] = (L'.set i q).map AV.bool := fun q => by rw [over_set (by simp; omega), List.map_set]
        have hol := fun q => hput q
        have hbwl := hfar (.inr (.inr (.inr (by rw [hw2]; simp))) : bw = h.length ∨ bw = b4 ∨ G bw ∨ bw ∈ Bw)
        have hw6 : ∀ (cs : List AV) k, k ≠ bw → (wr (g5 ++ [some (AObj.cells [x0, x1])]) bw cs)[k]? = (g5 ++ [some (AObj.cells [x0, x1])])[k]? := fun cs k hk => by
          unfold wr
          rw [List.getElem?_set_ne (Ne.symm hk)]
        have hll : (L'.map AV.bool).length = L'.length := by simp
        have hpm : (h.length ≤ bw) = True := by simp; omega
        have hb8 : h.length ≤ g5.length := by have := hD8.1; omega
        (try (simp (disch := first | omega | (simp <;> omega) | fail) only [push_cast, ↓reduceIte, Nat.reduceEqDiff, Nat.reduceAdd, Nat.reduceMul, Nat.reduceSub, Nat.reduceLT, Int.reduceToNat, hia, e3, e4, o0, o1]))
        generalize g5 ++ [some (.cells [x0, x1])] = g6 at *
        generalize g5.length = b8 at *
        (try (simp (disch := first | omega | (simp <;> omega) | fail) only [push_cast, ↓reduceIte, Nat.reduceEqDiff, Nat.reduceAdd, Nat.reduceMul, Nat.reduceSub, Nat.reduceLT, Int.reduceToNat, c49, c59, c89, hiw, reads, List.mem_cons, List.mem_append, List.not_mem_nil, nat_ff, or_self, or_false, false_or, not_false_eq_true]))
        repeat' (with_reducible refine And.intro ?_ ?_)
        all_goals
          refine (c_spec_reOdd (R.getD i default).words (some (wordsN B m)) nn nn m (numW (lI (R.getD i default).words)) B k1 rfl (by omega) (by omega)).lendL (.cons hvr (.cons hvx .nil)) own_bool ?_
          (try (simp (disch := first | omega | (simp <;> omega) | fail) only [push_cast, ↓reduceIte, Nat.reduceEqDiff, Nat.reduceAdd, Nat.reduceMul, Nat.reduceSub, Nat.reduceLT, Int.reduceToNat, c49, c59, c89, hiw, hw3, hov, hll, hpm, reads, List.mem_cons, List.mem_append, List.not_mem_nil, nat_ff, or_self, or_false, false_or, not_false_eq_true]))
        all_goals
          refine ⟨_, hol _, by simp [hL'], cells_keep (hw6 _ _ (by omega)) c59, cells_keep (hw6 _ _ (by omega)) cb9⟩
      · (try (simp only [decide_eq_true_eq, decide_eq_false_iff_not, Bool.not_eq_true', Bool.not_eq_false', Bool.and_eq_true, Bool.or_eq_true, Int.not_lt, Int.not_le] at hd)); (try (simp (disch := first | omega | (simp <;> omega) | fail) only [push_cast, ↓reduceIte, Nat.reduceEqDiff, Nat.reduceAdd, Nat.reduceMul, Nat.reduceSub, Nat.reduceLT, Int.reduceToNat]))
        (try (simp (disch := first | omega | (simp <;> omega) | fail) only [push_cast, ↓reduceIte, Nat.reduceEqDiff, Nat.reduceAdd, Nat.reduceMul, Nat.reduceSub, Nat.reduceLT, Int.reduceToNat]))
        all_goals (try exact ⟨_, _, hD8⟩)
  · rintro e g ⟨L, K, hp, hD⟩
    refine K_pins hp fun e => ?_
    have c4 := hD.at4
    obtain ⟨s, _, _, _, hv⟩ := hD.vw (n0 := h.length) (by omega)
    have c0 := hD.2.1
    have hpm : (h.length ≤ h.length) = True := by simp
    have hw := cells_wr2 (cells_lt c0) (cs := [AV.int .i64 n, v, w])
    have hD2 : ∃ s : Sy, Vw (wr g h.length [.int .i64 n, v, w]) h.length (.agg [.int .i64 n, v, w]) (eSy s) := by
      obtain ⟨d1, d2, d3, d4, d5, d6, d7, d8, d9, d10, d11, d12, d13, d14⟩ := hD
      have hwk : ∀ k, k ≠ h.length → (wr g h.length [AV.int .i64 n, v, w])[k]? = g[k]? := fun k hk => by
        unfold wr
        rw [List.getElem?_set_ne (Ne.symm hk)]
      obtain ⟨o, ho, _⟩ := (d11.frame fun k hg => hwk k (by have := (d12 k hg).1; omega)).vwB (n0 := h.length) fun k hg => by have := (d12 k hg).1; omega
      obtain ⟨p, hp, _⟩ := (d13.frame fun k hb => hwk k (by have := (d14 k hb).1; omega)).vwB0 (n0 := h.length) fun k hb => by have := (d14 k hb).1; omega
      refine ⟨⟨n, o, p⟩, .agg rfl fun j y t hy ht => ?_⟩
      rcases j with _ | _ | _ | j
      · simp at hy ht
        subst hy ht
        exact .free free_int
      · simp at hy ht
        subst hy ht
        exact ho
      · simp at hy ht
        subst hy ht
        exact hp
      · simp at hy
    obtain ⟨s, hs⟩ := hD2
    (try (simp (disch := first | omega | (simp <;> omega) | fail) only [push_cast, ↓reduceIte, Nat.reduceEqDiff, Nat.reduceAdd, Nat.reduceMul, Nat.reduceSub, Nat.reduceLT, Int.reduceToNat, c4, c0, hpm, hw, v1, w1, v2, w2]))
    all_goals (try exact ⟨_, hs, _, rfl⟩)

end Go.Proofs.Ytgkdnpigbpkehaa.M
