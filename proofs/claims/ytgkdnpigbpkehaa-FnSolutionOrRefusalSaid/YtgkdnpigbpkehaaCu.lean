/-
  What the functions return.
-/
import Derived.Test.YtgkdnpigbpkehaaFu
import Derived.Test.YtgkdnpigbpkehaaCt
namespace Go.Proofs.Ytgkdnpigbpkehaa.M
open Go Go.RowKit
set_option linter.unusedVariables false
set_option linter.unusedSimpArgs false
set_option maxRecDepth 4000

/-- What is new and seen is frozen; what is old stays, as the call has left it. -/
theorem Call.freezeF {P : Program} {f : FuncId} {args : List AV} {h : H} {W : Nat → Prop} {R : AV → H → Prop} (hc : Call P f args h W (fun x h' => ∃ t, Vw h' h.length x t ∧ R t h')) : Call P f args h W (fun x g => ∃ h', g = M.filt (fun b => decide (b < h.length)) h' ∧ R x h') := by
  refine ⟨hc.1, fun S w μ cargs hr ha => (hc.2 S w μ cargs hr ha).mono ?_⟩
  rintro e w' ⟨v, x, h', S', μ', rfl, ⟨t, hvw, hR⟩, hv, hr', hs⟩
  have hlen : μ.length = h.length := hr.len
  have hvt := hvw.sound hr' (M.filt (fun b => decide (b < h.length)) μ') hv
  have hr2 := hr'.filt fun b => decide (b < h.length)
  have hf : Fwd S' w' (M.filt (fun b => decide (b < h.length)) μ') (Kept S' μ' h.length) w' (M.filt (fun b => decide (b < h.length)) μ') := ⟨fun B hB => .inl hB, fun _ _ => rfl, Nat.le_refl _, fun _ _ => .inl rfl⟩
  have hft : ∀ b, b < μ.length → (M.filt (fun b => decide (b < h.length)) μ')[b]? = μ'[b]? := fun b hb => filt_t (by simp; omega)
  refine ⟨v, t, M.filt (fun b => decide (b < h.length)) h', Kept S' μ' h.length, M.filt (fun b => decide (b < h.length)) μ', rfl, ⟨h', rfl, hR⟩, hvt, ⟨hr2.len, fun b o hb => ?_, hr2.dead, hr2.inj, fun b m hm hk => ?_, kept_lt hr', hr'.gl.fwd (fun B hB => .inl hB) (fun _ _ => rfl)⟩, ⟨⟨fun B hB => .inl (hs.s B hB), fun B hB => hs.blk B hB, ?_, fun b hb => ?_⟩, hs.size, hs.os, hs.output, hs.tape, hs.drawn, fun b hb hnW => ?_⟩⟩
  · obtain ⟨m, hm, ho⟩ := hr2.obj b o hb
    exact ⟨m, hm, ho.fwd hf rfl⟩
  · obtain ⟨h1, h2⟩ := filt_some hm
    rcases hk with hk | ⟨b', m', hb', hm', he⟩
    · exact hr'.out b m h2 hk
    · have := hr'.inj b' b m' m hm' h2 he
      have := of_decide_eq_true h1
      omega
  · have := hs.len
    rwa [filt_len]
  · rw [hft b hb]
    exact hs.mu b hb
  · obtain ⟨e1, e2⟩ := hs.kept b hb hnW
    exact ⟨(hft b hb).trans e1, e2⟩

/-- A cut that may also return. -/
def CR (R : Env → H → Prop) (Q : Ex → Env → H → Prop) : Ex → Env → H → Prop
  | .normal => R
  | .exit _ => fun _ _ => False
  | .ret => Q .ret
theorem CR_n {R : Env → H → Prop} {Q : Ex → Env → H → Prop} {e : Env} {h : H} : CR R Q .normal e h = R e h := (rfl)
theorem CR_r {R : Env → H → Prop} {Q : Ex → Env → H → Prop} {e : Env} {h : H} : CR R Q .ret e h = Q .ret e h := (rfl)
theorem T_cutR {P : Program} {pm : Nat → Prop} {c : RCode} {Q : Ex → Env → H → Prop} {e : Env} {h : H} (R : Env → H → Prop) (h1 : T P pm c (K P pm [] (CR R Q)) e h) (h2 : ∀ e h, R e h → Q .normal e h) : T P pm c Q e h := by
  refine T_mono ?_ h1
  intro x e h hq
  cases x with
  | normal => exact h2 e h hq
  | exit i => exact hq.elim
  | ret => exact hq
--eng CR_n CR_r

attribute [push_cast] CR_n CR_r
theorem SyX.vw {h g : H} {b K n0 : Nat} {c : Option (List UInt8)} {x : AV} (hx : SyX h g b c K x) (h0 : n0 ≤ h.length) : ∃ s : Sy, Vw g n0 x (eSy s) ∧ -1 ≤ s.size ∧ s.size ≤ 73 ∧ (lB s.rows).length ≤ 150 ∧ (lO s.right).length ≤ 150 := by
  obtain ⟨x1, x2, x3, n, v, w, R, L, G, Bw, rfl, q2, q3, q4, q5, q6, q7, q8, q9⟩ := hx
  obtain ⟨o, ho, ho2⟩ := q6.vwB (n0 := n0) fun k hg => by have := (q7 k hg).1; omega
  obtain ⟨p, hp, hp2⟩ := q8.vwB0 (n0 := n0) fun k hb => by have := q9 k hb; omega
  refine ⟨⟨n, o, p⟩, .agg rfl fun j y t hy ht => ?_, q2, q3, by rw [ho2]; exact q4, by rw [hp2]; exact q5⟩
  rcases j with _ | _ | _ | j
  · simp at hy ht
    subst hy ht
    exact .free free_int
  · simp at hy ht
    subst hy ht
    exact ho
  · simp at hy ht
    subst hy ht
    exact hp
  · simp at hy
theorem vw_tup2 {h : H} {n : Nat} {a b x y : AV} (h1 : Vw h n a b) (h2 : Vw h n x y) : Vw h n (.tup [a, x]) (.tup [b, y]) := by
  refine .tup rfl fun j u t hu ht => ?_
  rcases j with _ | _ | j
  · simp at hu ht
    subst hu ht
    exact h1
  · simp at hu ht
    subst hu ht
    exact h2
  · simp at hu
/-- A drawn value in a box: the result's box, the cursor, the value's box. -/
def BxI (h g : H) (c : Option (List UInt8)) (K b5 : Nat) (cs : List AV) : Prop := g.cells h.length = some [.int .i64 0, .nils, .nils] ∧ CurI g (h.length + 1) c K ∧ g.cells b5 = some cs ∧ h.length + 2 ≤ b5
theorem BxI.keep {h g g2 : H} {c : Option (List UInt8)} {K K' b5 : Nat} {cs : List AV} (hb : BxI h g c K b5 cs) (hk : ∀ k, k = h.length ∨ k = b5 → g2[k]? = g[k]?) (hc : CurI g2 (h.length + 1) c K') : BxI h g2 c K' b5 cs :=
  ⟨cells_keep (hk _ (.inl rfl)) hb.1, hc, cells_keep (hk _ (.inr rfl)) hb.2.2.1, hb.2.2.2⟩
theorem BxI.step {h g g2 : H} {c : Option (List UInt8)} {K K' b5 : Nat} {cs : List AV} (hb : BxI h g c K b5 cs) (hs : CurS g g2 (h.length + 1) c K') : BxI h g2 c K' b5 cs :=
  hb.keep (fun k hk => hs.2.1 k (by have := hb.2.2.2; omega)) hs.2.2
theorem BxI.mono {h g : H} {c : Option (List UInt8)} {K K' b5 : Nat} {cs : List AV} (hb : BxI h g c K b5 cs) (hk : K ≤ K') : BxI h g c K' b5 cs := ⟨hb.1, hb.2.1.mono hk, hb.2.2⟩
/-- A list of numbers being drawn. -/
def LsI (h g : H) (b5 : Nat) (u : AV) (l : List Int) : Prop := ∃ Bl, S1 g 1 u l.length (l.map (.int .i64)) Bl ∧ ∀ k ∈ Bl, h.length + 2 ≤ k ∧ k ≠ b5
theorem LsI.step {h g g2 : H} {b b5 K : Nat} {c : Option (List UInt8)} {u : AV} {l : List Int} (hl : LsI h g b5 u l) (hs : CurS g g2 b c K) (hb : b = h.length + 1) : LsI h g2 b5 u l := by
  obtain ⟨Bl, h1, h2⟩ := hl
  exact ⟨Bl, h1.frame fun k hk => hs.2.1 k (by have := (h2 k hk).1; omega), h2⟩
theorem LsI.app {h g : H} {c : Option (List UInt8)} {K b5 : Nat} {cs : List AV} {u : AV} {l : List Int} {q : Int} {pm : Nat → Prop} {Q : AV → H → Prop} (hl : LsI h g b5 u l) (hb : BxI h g c K b5 cs) (hpm : ∀ k, h.length ≤ k → pm k) (hN : l.length ≤ 1000000)
    (hQ : ∀ u' g2, BxI h g2 c K b5 cs → LsI h g2 b5 u' (l ++ [q]) → Q u' g2) : apA pm (g ++ [some (.cells [.int .i64 q])]) Q 1 8 (some ([.int .i64 q], 1)) u := by
  obtain ⟨Bl, h1, h2⟩ := hl
  refine (h1.frame (h' := g ++ _) fun k hk => List.getElem?_append_left (h1.lt k hk)).app0 (new := [.int .i64 q]) (k := 1) (by_ := 8) (fun k hk => hpm k (by have := (h2 k hk).1; omega)) rfl (by omega) fun u2 g2 B2 a1 a2 a3 a4 a5 => ?_
  simp only [List.length_append, List.length_cons, List.length_nil] at a2 a3 a4
  have l0 := cells_lt hb.1
  have l1 := hb.2.1.lt
  have l5 := cells_lt hb.2.2.1
  have hk2 : ∀ k, k < g.length → k ∉ Bl → g2[k]? = g[k]? := fun k hk hn => (a3 k (by omega) hn).trans (List.getElem?_append_left hk)
  refine hQ u2 g2 (hb.keep (fun k hk => ?_) (hb.2.1.frame (hk2 _ l1 fun h5 => by have := (h2 _ h5).1; omega))) ⟨B2, by simpa using a1, fun k hk => ?_⟩
  · rcases hk with rfl | rfl
    · exact hk2 _ l0 fun h5 => by have := (h2 _ h5).1; omega
    · exact hk2 _ l5 fun h5 => (h2 _ h5).2 rfl
  · have h3 := hb.2.2.2
    rcases a4 k hk with h5 | h5
    · exact h2 k h5
    · exact ⟨by omega, by omega⟩
theorem LsI.one_ {h g : H} {b5 : Nat} {u : AV} {l : List Int} (hl : LsI h g b5 u l) : one u = true ∧ cellsOf u = [u] := by
  obtain ⟨Bl, h1, h2⟩ := hl
  exact h1.one_

theorem c_spec_l1Cur_system_f (b : Nat) (c : Option (List UInt8)) (K : Nat) (h : H) (hc : CurI h b c K) (hK : K ≤ 5000000) :
    Call Try.prog 83 [.adr b 0] h (fun b' => b' = b) (fun x g => ∃ s : Sy, x = eSy s ∧ (lB s.rows).length ≤ 150 ∧ h.length ≤ g.length ∧ (∀ k, k < h.length → k ≠ b → g[k]? = h[k]?) ∧ CurI g b c (K + 2000)) := by
  have h0 := Call.freezeF (R := fun t h' => ∃ s : Sy, t = eSy s ∧ (lB s.rows).length ≤ 150 ∧ h.length ≤ h'.length ∧ (∀ k, k < h.length → k ≠ b → h'[k]? = h[k]?) ∧ CurI h' b c (K + 2000)) ((c_spec_l1Cur_system b c K h hc hK).mono (fun x h' hx => by
    obtain ⟨s, hv, _, _, h1, _⟩ := hx.vw (Nat.le_refl _)
    exact ⟨_, hv, s, rfl, h1, hx.1, hx.2.1, hx.2.2.1⟩) (fun _ _ h => h))
  refine h0.mono (fun x g hg => ?_) (fun _ _ h => h)
  obtain ⟨h', rfl, s, rfl, h1, h2, h3, h4⟩ := hg
  have hbl := hc.lt
  exact ⟨s, rfl, h1, by rw [filt_len]; exact h2, fun k hk hn => (filt_t (by simpa using hk)).trans (h3 k hk hn), h4.frame (filt_t (by simpa using hbl))⟩
set_option maxHeartbeats 2000000 in
theorem c_spec_DrawIsRefusal (c : Option (List UInt8)) : Fn Try.prog 53 [eU c] (fun x => ∃ (s : Sy) (l : Option (List Int)), x = .tup [eSy s, eI l]) := by
  refine Fn.froze_ fun h => ?_
  refine enter (by kernel_rfl) e53 (by kernel_rfl) rfl fun hok => ?_
  simp only [r53, initEnv_1]
  generalize hC : RCode.seq (.reg (⟨some 15, .v (.load true 3 (.t 5)), none⟩ :: _)) _ = C
  have hfb : fillA [.nils, .int .i64 0, .int .u64 0] [(0, 1, eU c)] = some [eU c, .int .i64 0, .int .u64 0] := by cases c <;> rfl
  (try (simp (disch := first | omega | (simp <;> omega) | fail) only [push_cast, ↓reduceIte, Nat.reduceEqDiff, Nat.reduceAdd, Nat.reduceMul, Nat.reduceSub, Nat.reduceLT, Int.reduceToNat, hfb]))
  refine (c_spec_l1Cur_system_f (h.length + 1) c 0 (h ++ [some (.cells [.int .i64 0, .nils, .nils]), some (.cells [eU c, .int .i64 0, .int .u64 0])]) ⟨0, 0, by rw [cells_hk]; rfl, Nat.le_refl _⟩ (by omega)).mono (fun x g0 hx => ?_) (fun b' _ hb' => Or.inr (Nat.le_trans (Nat.le_succ _) (Nat.le_of_eq hb'.symm)))
  obtain ⟨s, rfl, hR, g1, g2, g3⟩ := hx
  simp only [List.length_append, List.length_cons, List.length_nil] at g1 g2
  have hB : BxI h (g0 ++ [some (.cells [.int .i64 s.size, eBS s.rows, eO s.right])]) c (0 + 2000) g0.length [.int .i64 s.size, eBS s.rows, eO s.right] :=
    ⟨cells_app (cells_keep (g2 h.length (by omega) (by omega)) (by rw [cells_h0]; rfl)), g3.frame (List.getElem?_append_left g3.lt), by rw [cells_h0]; rfl, by omega⟩
  have hb5 : h.length ≤ g0.length := by omega
  clear g1 g2 g3
  (try (simp (disch := first | omega | (simp <;> omega) | fail) only [push_cast, ↓reduceIte, Nat.reduceEqDiff, Nat.reduceAdd, Nat.reduceMul, Nat.reduceSub, Nat.reduceLT, Int.reduceToNat]))
  generalize g0 ++ [some (.cells [.int .i64 s.size, eBS s.rows, eO s.right])] = g at *
  generalize g0.length = b5 at *
  have hfin : ∀ (g : H) (K : Nat) (u : AV) (l : List Int), BxI h g c K b5 [.int .i64 s.size, eBS s.rows, eO s.right] → LsI h g b5 u l → ∃ t, Vw (wr g h.length [.int .i64 s.size, eBS s.rows, eO s.right]) h.length (.tup [.agg [.int .i64 s.size, eBS s.rows, eO s.right], u]) t ∧ ∃ (s : Sy) (l : Option (List Int)), t = .tup [eSy s, eI l] := by
    intro g K u l hB hL
    obtain ⟨Bl, h1, h2⟩ := hL
    obtain ⟨o, ho, _⟩ := (h1.frame (h' := wr g h.length [.int .i64 s.size, eBS s.rows, eO s.right]) fun k hk => by
      have := (h2 k hk).1
      unfold wr
      rw [List.getElem?_set_ne (by omega)]).vwI0 (n0 := h.length) fun k hk => by have := (h2 k hk).1; omega
    exact ⟨_, vw_tup2 (.free free_eSy) ho, s, o, rfl⟩
  have hpm : (h.length ≤ h.length) = True := by simp
  refine T_cutR (fun e g => Pins e [(2, .adr h.length 0), (3, .nils), (4, .adr (h.length + 1) 0), (5, .adr b5 0)] ∧ BxI h g c (0 + 2000 + 1) b5 [.int .i64 s.size, eBS s.rows, eO s.right]) ?_ ?_
  · rw [← hC]
    have c5 := hB.2.2.1
    have hBm := hB.mono (show 0 + 2000 ≤ 0 + 2000 + 1 by omega)
    (try (simp (disch := first | omega | (simp <;> omega) | fail) only [push_cast, ↓reduceIte, Nat.reduceEqDiff, Nat.reduceAdd, Nat.reduceMul, Nat.reduceSub, Nat.reduceLT, Int.reduceToNat, c5]))
    refine (c_spec_reGood s).call ?_
    cases hk : okSy s
    · (try (simp (disch := first | omega | (simp <;> omega) | fail) only [push_cast, ↓reduceIte, Nat.reduceEqDiff, Nat.reduceAdd, Nat.reduceMul, Nat.reduceSub, Nat.reduceLT, Int.reduceToNat, c5]))
      all_goals (try exact hBm)
    obtain ⟨m, ho⟩ := okE_n hk
    (try (simp (disch := first | omega | (simp <;> omega) | fail) only [push_cast, ↓reduceIte, Nat.reduceEqDiff, Nat.reduceAdd, Nat.reduceMul, Nat.reduceSub, Nat.reduceLT, Int.reduceToNat, c5]))
    refine (c_spec_l1Cur_one (h.length + 1) c _ g 2 hB.2.1 (by omega) (by omega) (by omega)).mono (fun x g2 hx => ?_) (fun b' _ hb' => Or.inr (Nat.le_trans (Nat.le_succ _) (Nat.le_of_eq hb'.symm)))
    obtain ⟨⟨t, rfl⟩, hs⟩ := hx
    have hB2 := hB.step hs
    have c52 := hB2.2.2.1
    have c02 := hB2.1
    have hw := cells_wr2 (cells_lt c02) (cs := [AV.int .i64 s.size, eBS s.rows, eO s.right])
    cases t
    · (try (simp (disch := first | omega | (simp <;> omega) | fail) only [push_cast, ↓reduceIte, Nat.reduceEqDiff, Nat.reduceAdd, Nat.reduceMul, Nat.reduceSub, Nat.reduceLT, Int.reduceToNat]))
      all_goals (try exact hB2)
    (try (simp (disch := first | omega | (simp <;> omega) | fail) only [push_cast, ↓reduceIte, Nat.reduceEqDiff, Nat.reduceAdd, Nat.reduceMul, Nat.reduceSub, Nat.reduceLT, Int.reduceToNat, c52]))
    refine (c_spec_reLines s _ m ho).call ?_
    unfold linesV
    (try (simp (disch := first | omega | (simp <;> omega) | fail) only [push_cast, ↓reduceIte, Nat.reduceEqDiff, Nat.reduceAdd, Nat.reduceMul, Nat.reduceSub, Nat.reduceLT, Int.reduceToNat, c52]))
    first | refine goC_split (fun hc => ?_) (fun hc => ?_) | refine cnd_split (fun hc => ?_) (fun hc => ?_)
    · (try (simp only [decide_eq_true_eq, decide_eq_false_iff_not, Bool.not_eq_true', Bool.not_eq_false', Bool.and_eq_true, Bool.or_eq_true, Int.not_lt, Int.not_le] at hc)); (try (simp (disch := first | omega | (simp <;> omega) | fail) only [push_cast, ↓reduceIte, Nat.reduceEqDiff, Nat.reduceAdd, Nat.reduceMul, Nat.reduceSub, Nat.reduceLT, Int.reduceToNat]))
      (try (simp (disch := first | omega | (simp <;> omega) | fail) only [push_cast, ↓reduceIte, Nat.reduceEqDiff, Nat.reduceAdd, Nat.reduceMul, Nat.reduceSub, Nat.reduceLT, Int.reduceToNat, c52, c02, hpm, hw]))
      all_goals (try exact ⟨_, .free (free_tup (free_cons_ free_eSy (free_cons_ free_eI free_nil_))), s, _, rfl⟩)
    · (try (simp only [decide_eq_true_eq, decide_eq_false_iff_not, Bool.not_eq_true', Bool.not_eq_false', Bool.and_eq_true, Bool.or_eq_true, Int.not_lt, Int.not_le] at hc)); (try (simp (disch := first | omega | (simp <;> omega) | fail) only [push_cast, ↓reduceIte, Nat.reduceEqDiff, Nat.reduceAdd, Nat.reduceMul, Nat.reduceSub, Nat.reduceLT, Int.reduceToNat]))
      all_goals (try exact hB2)
  · rintro e g3 ⟨hp, hB⟩
    refine K_pins hp fun e => ?_
    have c5 := hB.2.2.1
    have c0 := hB.1
    (try (simp (disch := first | omega | (simp <;> omega) | fail) only [push_cast, ↓reduceIte, Nat.reduceEqDiff, Nat.reduceAdd, Nat.reduceMul, Nat.reduceSub, Nat.reduceLT, Int.reduceToNat, c5]))
    refine T_for (lB s.rows).length (fun i e g' => ∃ u l, Pins e [(2, .adr h.length 0), (4, .adr (h.length + 1) 0), (5, .adr b5 0), (8, u), (33, .int .i64 (lB s.rows).length), (34, .int .i64 i)] ∧ BxI h g' c (0 + 2000 + 1 + i) b5 [.int .i64 s.size, eBS s.rows, eO s.right] ∧ LsI h g' b5 u l ∧ l.length ≤ i) ?_ ?_
    · refine ⟨.nils, [], ?_, hB, ⟨[], S1.nil, by simp⟩, by simp⟩
      (try (simp (disch := first | omega | (simp <;> omega) | fail) only [push_cast, ↓reduceIte, Nat.reduceEqDiff, Nat.reduceAdd, Nat.reduceMul, Nat.reduceSub, Nat.reduceLT, Int.reduceToNat]))
      all_goals (try simp)
    rintro i e g4 hi ⟨u, l, hp, hB4, hL4, hll⟩
    refine T_pins hp fun e => ?_
    (try (simp (disch := first | omega | (simp <;> omega) | fail) only [push_cast, ↓reduceIte, Nat.reduceEqDiff, Nat.reduceAdd, Nat.reduceMul, Nat.reduceSub, Nat.reduceLT, Int.reduceToNat]))
    first | refine goC_split (fun hc => ?_) (fun hc => ?_) | refine cnd_split (fun hc => ?_) (fun hc => ?_)
    · (try (simp only [decide_eq_true_eq, decide_eq_false_iff_not, Bool.not_eq_true', Bool.not_eq_false', Bool.and_eq_true, Bool.or_eq_true, Int.not_lt, Int.not_le] at hc)); (try (simp (disch := first | omega | (simp <;> omega) | fail) only [push_cast, ↓reduceIte, Nat.reduceEqDiff, Nat.reduceAdd, Nat.reduceMul, Nat.reduceSub, Nat.reduceLT, Int.reduceToNat]))
      refine (c_spec_l1Cur_one (h.length + 1) c _ g4 2 hB4.2.1 (by omega) (by omega) (by omega)).mono (fun x g5 hx => ?_) (fun b' _ hb' => Or.inr (Nat.le_trans (Nat.le_succ _) (Nat.le_of_eq hb'.symm)))
      obtain ⟨⟨t, rfl⟩, hs⟩ := hx
      have hB5 := hB4.step hs
      have hL5 := hL4.step hs rfl
      cases t
      · (try (simp (disch := first | omega | (simp <;> omega) | fail) only [push_cast, ↓reduceIte, Nat.reduceEqDiff, Nat.reduceAdd, Nat.reduceMul, Nat.reduceSub, Nat.reduceLT, Int.reduceToNat]))
        all_goals (try exact ⟨_, _, rfl, hB5, hL5, by omega⟩)
        all_goals (try exact ⟨_, hB5, hL5, by omega⟩)
        all_goals (try exact ⟨_, _, hB5, hL5, by omega⟩)
      · (try (simp (disch := first | omega | (simp <;> omega) | fail) only [push_cast, ↓reduceIte, Nat.reduceEqDiff, Nat.reduceAdd, Nat.reduceMul, Nat.reduceSub, Nat.reduceLT, Int.reduceToNat]))
        refine hL5.app hB5 (fun k hk => Or.inr hk) (by omega) fun u2 g6 hB6 hL6 => ?_
        (try (simp (disch := first | omega | (simp <;> omega) | fail) only [push_cast, ↓reduceIte, Nat.reduceEqDiff, Nat.reduceAdd, Nat.reduceMul, Nat.reduceSub, Nat.reduceLT, Int.reduceToNat]))
        all_goals (try exact ⟨_, _, rfl, hB6, hL6, by simp; omega⟩)
        all_goals (try exact ⟨_, hB6, hL6, by simp; omega⟩)
        all_goals (try exact ⟨_, _, hB6, hL6, by simp; omega⟩)
    · (try (simp only [decide_eq_true_eq, decide_eq_false_iff_not, Bool.not_eq_true', Bool.not_eq_false', Bool.and_eq_true, Bool.or_eq_true, Int.not_lt, Int.not_le] at hc)); (try (simp (disch := first | omega | (simp <;> omega) | fail) only [push_cast, ↓reduceIte, Nat.reduceEqDiff, Nat.reduceAdd, Nat.reduceMul, Nat.reduceSub, Nat.reduceLT, Int.reduceToNat]))
      refine (c_spec_l1Cur_one (h.length + 1) c _ g4 8 hB4.2.1 (by omega) (by omega) (by omega)).mono (fun x g5 hx => ?_) (fun b' _ hb' => Or.inr (Nat.le_trans (Nat.le_succ _) (Nat.le_of_eq hb'.symm)))
      obtain ⟨⟨t, rfl⟩, hs⟩ := hx
      have hB5 := hB4.step hs
      have hL5 := hL4.step hs rfl
      have c55 := hB5.2.2.1
      have c05 := hB5.1
      cases t
      · have hw := cells_wr2 (cells_lt c05) (cs := [AV.int .i64 s.size, eBS s.rows, eO s.right])
        (try (simp (disch := first | omega | (simp <;> omega) | fail) only [push_cast, ↓reduceIte, Nat.reduceEqDiff, Nat.reduceAdd, Nat.reduceMul, Nat.reduceSub, Nat.reduceLT, Int.reduceToNat, c55, c05, hpm, hw]))
        all_goals (try exact hfin _ _ _ _ hB5 hL5)
      · (try (simp (disch := first | omega | (simp <;> omega) | fail) only [push_cast, ↓reduceIte, Nat.reduceEqDiff, Nat.reduceAdd, Nat.reduceMul, Nat.reduceSub, Nat.reduceLT, Int.reduceToNat, c55]))
        refine (c_spec_l1Cur_place (h.length + 1) c _ g5 (lB s.rows).length hB5.2.1 (by omega) (by omega)).mono (fun x g6 hx => ?_) (fun b' _ hb' => Or.inr (Nat.le_trans (Nat.le_succ _) (Nat.le_of_eq hb'.symm)))
        obtain ⟨⟨q, rfl, q0, q1⟩, hs6⟩ := hx
        have hB6 := hB5.step hs6
        have hL6 := hL5.step hs6 rfl
        (try (simp (disch := first | omega | (simp <;> omega) | fail) only [push_cast, ↓reduceIte, Nat.reduceEqDiff, Nat.reduceAdd, Nat.reduceMul, Nat.reduceSub, Nat.reduceLT, Int.reduceToNat]))
        refine hL6.app hB6 (fun k hk => Or.inr hk) (by omega) fun u2 g7 hB7 hL7 => ?_
        have c57 := hB7.2.2.1
        have c07 := hB7.1
        have hw := cells_wr2 (cells_lt c07) (cs := [AV.int .i64 s.size, eBS s.rows, eO s.right])
        (try (simp (disch := first | omega | (simp <;> omega) | fail) only [push_cast, ↓reduceIte, Nat.reduceEqDiff, Nat.reduceAdd, Nat.reduceMul, Nat.reduceSub, Nat.reduceLT, Int.reduceToNat, c57, c07, hpm, hw]))
        all_goals (try exact hfin _ _ _ _ hB7 hL7)

end Go.Proofs.Ytgkdnpigbpkehaa.M
