/-
  What the functions return.
-/
import Derived.Test.YtakjemikampncaaGreatDoorFzl
import Derived.Test.YtakjemikampncaaGreatDoorCzk
namespace Go.Proofs.YtakjemikampncaaGreatDoor.M
open Go Go.RowKit
attribute [local instance] dqF
set_option linter.unusedVariables false
set_option linter.unusedSimpArgs false
set_option maxRecDepth 4000

/-- A list of structs that grows, with the blocks that it may hold told by G. -/
def OwG (h : H) (G : Nat → Prop) (sz : Nat) (v : AV) (k : Nat) (ts : List AV) : Prop := (v = .nils ∧ k = 0 ∧ ts = []) ∨ Ow h [v] [.ro sz ts k] G
theorem OwG.mono {h : H} {G G' : Nat → Prop} {sz k : Nat} {v : AV} {ts : List AV} (ho : OwG h G sz v k ts) (hG : ∀ c, G c → G' c) : OwG h G' sz v k ts := by
  rcases ho with h0 | ho
  · exact .inl h0
  · exact .inr (ho.mono hG)
theorem OwG.frame {h h' : H} {G : Nat → Prop} {sz k : Nat} {v : AV} {ts : List AV} (ho : OwG h G sz v k ts) (hk : ∀ c, G c → h'[c]? = h[c]?) : OwG h' G sz v k ts := by
  rcases ho with h0 | ho
  · exact .inl h0
  · exact .inr (ho.frame hk)
theorem OwG.cell {h : H} {G : Nat → Prop} {sz k : Nat} {v : AV} {ts : List AV} (ho : OwG h G sz v k ts) : one v = true ∧ cellsOf v = [v] := by
  rcases ho with ⟨rfl, _, _⟩ | ho
  · exact ⟨rfl, rfl⟩
  · obtain ⟨b, rfl⟩ := ho.sl1
    exact ⟨rfl, rfl⟩
theorem OwG.app {h h2 : H} {G : Nat → Prop} {sz k by_ : Nat} {v : AV} {ts new nt : List AV} {pm : Nat → Prop} {Q : AV → H → Prop} (ho : OwG h G sz v k ts) (hpm : ∀ b, G b → pm b) (hl : h.length ≤ h2.length) (hk : ∀ c, G c → h2[c]? = h[c]?)
    (hn : Ow h2 new nt fun c => h.length ≤ c) (hsz : new.length = sz) (h1 : nt.all one = true) (hb : (k + 1) * by_ ≤ 140737488355328)
    (hQ : ∀ v' h', Ow h' [v'] [.ro sz (ts ++ nt) (k + 1)] (fun c => G c ∨ h.length ≤ c) → h2.length ≤ h'.length → (∀ c, c < h2.length → ¬ G c → h'[c]? = h2[c]?) → v' ≠ .nils → Q v' h') : apA pm h2 Q sz by_ (some (new, 1)) v := by
  have hnl := hn.len
  obtain ⟨V, v1, v2, v3⟩ := hn.exact_ (n0 := 0) (fun _ _ => Nat.zero_le _)
  have hV : ∀ c, V c → c < h2.length := fun c hc => by
    obtain ⟨l, hl, _⟩ := v2 c hc
    exact cells_lt hl
  rcases ho with ⟨rfl, rfl, rfl⟩ | ho
  · rw [apA_nil (by decide)]
    refine ⟨by simpa using hb, hQ _ _ ?_ (by simp) (fun c hc _ => List.getElem?_append_left hc) (by simp)⟩
    refine .sl (b := h2.length) (cs := new) (F := V) (F' := fun _ => False) (by rw [cells_h0]; rfl) (by omega) (by simpa using h1) (v3 _ fun c hc => List.getElem?_append_left (hV c hc)) .nil (.inr hl) (fun c hc => ⟨.inr (v1 c hc), by have := hV c hc; omega⟩) (fun c hc => hc.elim)
  · obtain ⟨b, cs, F, rfl, hc, hcl, hbn, hF, hin, hre⟩ := ho.open_
    have hbl := cells_lt hc
    obtain ⟨U, u1, u2, u3⟩ := hin.exact_ (n0 := 0) (fun _ _ => Nat.zero_le _)
    have hU : ∀ c, U c → c < h.length := fun c hc => by
      obtain ⟨l, hl, _⟩ := u2 c hc
      exact cells_lt hl
    have hc2 : h2.cells b = some cs := cells_keep_ (hk b hbn) hc
    have htsone : ts.all one = true := by
      cases ho with
      | sl _ _ h1 _ _ _ _ _ => exact h1
    rw [apA_sl, hc2, apC_grow (by decide) (by omega)]
    refine ⟨by omega, hpm b hbn, hb, ?_⟩
    have htk : (cs.drop 0).take (k * sz) = cs := by rw [List.drop_zero, ← hcl, List.take_length]
    rw [htk]
    have hg : ∀ c, c < h2.length → c ≠ b → (killed h2 b ++ [some (.cells (cs ++ new))])[c]? = h2[c]? := fun c hc hne => by
      rw [List.getElem?_append_left (by simpa [killed] using hc)]
      unfold killed
      exact List.getElem?_set_ne (Ne.symm hne)
    refine hQ _ _ ?_ (by simp [killed]) (fun c hc hn => hg c hc (fun he => hn (by rw [he]; exact hbn))) (by simp)
    have A := u3 (killed h2 b ++ [some (.cells (cs ++ new))]) fun c hc => (hg c (by have := hU c hc; omega) (hF c (u1 c hc)).2).trans (hk c (hF c (u1 c hc)).1)
    have B := v3 (killed h2 b ++ [some (.cells (cs ++ new))]) fun c hc => hg c (hV c hc) (by have := v1 c hc; omega)
    refine .sl (b := h2.length) (cs := cs ++ new) (F := fun c => U c ∨ V c) (F' := fun _ => False) ?_ ?_ ?_ (A.app B (fun c hc => .inl hc) (fun c hc => ⟨.inr hc, fun hu => by have := hU c hu; have := v1 c hc; omega⟩)) .nil (.inr hl) ?_ (fun c hc => hc.elim)
    · rw [cells_eq, List.getElem?_append_right (by simp [killed])]
      simp [killed, cellsO]
    · rw [List.length_append, hcl, hsz, Nat.succ_mul]
    · rw [List.all_append, Bool.and_eq_true]
      exact ⟨htsone, h1⟩
    · rintro c (hc | hc)
      · exact ⟨.inl (hF c (u1 c hc)).1, by have := hU c hc; omega⟩
      · exact ⟨.inr (v1 c hc), by have := hV c hc; omega⟩

theorem S1.vwB {h : H} {n0 : Nat} {v : AV} {l : List Bool} {B : List Nat} {n : Nat} (hs : S1 h 1 v n (l.map .bool) B) (hb : ∀ b ∈ B, n0 ≤ b) (hnn : v ≠ .nils) : Vw h n0 v (eO (some l)) := by
  have hvw := hs.vw (ts := l.map .bool) hb rfl (one_map fun _ => rfl) (fun i y t hy ht => by
    rw [hy] at ht
    injection ht with ht
    subst ht
    obtain ⟨s, _, rfl⟩ := List.mem_map.1 (List.mem_of_getElem? hy)
    exact .free free_bool)
  rcases hvw with ⟨_, h0, _⟩ | ⟨_, hv⟩
  · exact absurd h0 hnn
  · have : l.length = n := by simpa using hs.1
    subst this
    exact hv
theorem S1.vwB0 {h : H} {n0 n : Nat} {v : AV} {l : List Bool} {B : List Nat} (hs : S1 h 1 v n (l.map .bool) B) (hb : ∀ b ∈ B, n0 ≤ b) : ∃ o, Vw h n0 v (eO o) ∧ lO o = l := by
  by_cases hn : v = .nils
  · subst hn
    rcases hs.2 with ⟨_, h0, _⟩ | ⟨b, hh, _⟩
    · have hl : l = [] := List.eq_nil_of_length_eq_zero (by have := hs.1; simp at this; omega)
      exact ⟨none, .free free_nils, hl.symm⟩
    · cases hh
  · exact ⟨some l, hs.vwB hb hn, rfl⟩

/-- The bits that are drawn, so far. -/
def BdI (h h' : H) (b : Nat) (c : Option (List UInt8)) (K : Nat) (v : AV) (L : List Bool) : Prop :=
  h.length < h'.length ∧ b < h.length ∧ CurI h' b c K ∧ h'.cells h.length = some [.int .i64 0, .nils] ∧ (∀ k, k < h.length → k ≠ b → h'[k]? = h[k]?) ∧ ∃ B, S1 h' 1 v L.length (L.map .bool) B ∧ ∀ k ∈ B, h.length + 1 ≤ k
theorem BdI.step {h h' h2 : H} {b K K' : Nat} {c : Option (List UInt8)} {v : AV} {L : List Bool} (hp : BdI h h' b c K v L) (hs : CurS h' h2 b c K') : BdI h h2 b c K' v L := by
  obtain ⟨p1, p2, p3, p4, p5, B, p6, p7⟩ := hp
  obtain ⟨s1, s2, s3⟩ := hs
  exact ⟨by omega, p2, s3, cells_keep (s2 _ (by omega)) p4, fun k hk hn => (s2 k hn).trans (p5 k hk hn), B, p6.frame fun k hk => s2 k (by have := p7 k hk; omega), p7⟩
theorem BdI.app {h h' : H} {b K : Nat} {c : Option (List UInt8)} {v : AV} {L : List Bool} {q : Bool} {pm : Nat → Prop} {Q : AV → H → Prop} (hp : BdI h h' b c K v L) (hpm : ∀ k, h.length ≤ k → pm k) (hb : (L.length + 1) * 1 ≤ 140737488355328)
    (hQ : ∀ v' h2, BdI h h2 b c K v' (L ++ [q]) → Q v' h2) : apA pm (h' ++ [some (.cells [.bool q])]) Q 1 1 (some ([.bool q], 1)) v := by
  obtain ⟨p1, p2, p3, p4, p5, B, p6, p7⟩ := hp
  refine (p6.frame (h' := h' ++ _) fun k hk => List.getElem?_append_left (p6.lt k hk)).app0 (new := [.bool q]) (k := 1) (by_ := 1) (fun k hk => hpm k (by have := p7 k hk; omega)) rfl hb fun v2 h2 B2 a1 a2 a3 a4 a5 => ?_
  simp only [List.length_append, List.length_cons, List.length_nil] at a2 a3 a4
  have hk2 : ∀ k, k < h'.length → k ∉ B → h2[k]? = h'[k]? := fun k hk hn => (a3 k (by omega) hn).trans (List.getElem?_append_left hk)
  refine hQ v2 h2 ⟨by omega, p2, p3.frame (hk2 _ (by omega) fun hb => by have := p7 _ hb; omega), cells_keep (hk2 _ p1 fun hb => by have := p7 _ hb; omega) p4, fun k hk hn => (hk2 k (by omega) fun hb => by have := p7 _ hb; omega).trans (p5 k hk hn), B2, by simpa using a1, fun k hk => ?_⟩
  rcases a4 k hk with h5 | h5
  · exact p7 k h5
  · omega

theorem c_spec_l1Cur_bits (b : Nat) (c : Option (List UInt8)) (K : Nat) (h : H) (most : Nat) (hc : CurI h b c K) (hK : K ≤ 100000000) (h1 : 1 ≤ most) (h2 : most ≤ 150) :
    Call Tryz.prog 96 [.adr b 0, .int .i64 most] h (fun b' => b' = b) (fun x h' => ∃ (n m bb B : Nat), x = .agg [.int .i64 n, .sl bb 0 1 m m] ∧ n ≤ most ∧ (((n : Int) + 15) / 16) = (m : Int) ∧ h.length ≤ bb ∧ h.length ≤ h'.length ∧ (∀ k, k < h.length → k ≠ b → h'[k]? = h[k]?) ∧ CurI h' b c (K + 1 + most) ∧ h'.cells bb = some ((wordsN B m).map (.int .i64))) := by
  refine enter (by kernel_rfl) e96 (by kernel_rfl) rfl fun hok => ?_
  simp only [r96, initEnv_2]
  have hbl := hc.lt
  (try (simp (disch := first | omega | (simp <;> omega) | fail) only [push_cast, ↓reduceIte, Nat.reduceEqDiff, Nat.reduceAdd, Nat.reduceMul, Nat.reduceSub, Nat.reduceLT, Int.reduceToNat]))
  refine (c_spec_l1Cur_pick b c K _ ((most : Int) + 1) (hc.frame (List.getElem?_append_left hbl)) (by omega) (by omega) (by omega)).mono (fun x h3 hx => ?_) (fun b' _ hb' => Or.inl hb')
  obtain ⟨⟨n0, rfl, m0, m1⟩, hs⟩ := hx
  obtain ⟨n, rfl⟩ : ∃ n : Nat, n0 = (n : Int) := ⟨n0.toNat, by omega⟩
  have hp0 : BdI h h3 b c (K + 1) .nils [] := by
    obtain ⟨s1, s2, s3⟩ := hs
    simp only [List.length_append, List.length_cons, List.length_nil] at s1
    exact ⟨by omega, hbl, s3, cells_keep (s2 _ (by omega)) (by rw [cells_h0]; rfl), fun k hk hn => (s2 k hn).trans (List.getElem?_append_left hk), [], by simpa using S1.nil, by simp⟩
  (try (simp (disch := first | omega | (simp <;> omega) | fail) only [push_cast, ↓reduceIte, Nat.reduceEqDiff, Nat.reduceAdd, Nat.reduceMul, Nat.reduceSub, Nat.reduceLT, Int.reduceToNat]))
  refine T_for n (fun i e h' => ∃ v L, Pins e [(0, .adr b 0), (4, .adr h.length 0), (5, v), (6, .int .i64 ((n : Int) - i))] ∧ BdI h h' b c (K + 1 + i) v L ∧ L.length = i) ?_ ?_
  · refine ⟨.nils, [], ?_, hp0, rfl⟩
    (try (simp (disch := first | omega | (simp <;> omega) | fail) only [push_cast, ↓reduceIte, Nat.reduceEqDiff, Nat.reduceAdd, Nat.reduceMul, Nat.reduceSub, Nat.reduceLT, Int.reduceToNat]))
    all_goals (try simp)
  rintro i e h' hi ⟨v, L, hp, hb, hL⟩
  refine T_pins hp fun e => ?_
  (try (simp (disch := first | omega | (simp <;> omega) | fail) only [push_cast, ↓reduceIte, Nat.reduceEqDiff, Nat.reduceAdd, Nat.reduceMul, Nat.reduceSub, Nat.reduceLT, Int.reduceToNat]))
  first | refine goC_split (fun hd => ?_) (fun hd => ?_) | refine cnd_split (fun hd => ?_) (fun hd => ?_)
  · (try (simp only [decide_eq_true_eq, decide_eq_false_iff_not, Bool.not_eq_true', Bool.not_eq_false', Bool.and_eq_true, Bool.or_eq_true, Int.not_lt, Int.not_le] at hd)); (try (simp (disch := first | omega | (simp <;> omega) | fail) only [push_cast, ↓reduceIte, Nat.reduceEqDiff, Nat.reduceAdd, Nat.reduceMul, Nat.reduceSub, Nat.reduceLT, Int.reduceToNat]))
    have hi2 : i < n := by omega
    refine (c_spec_l1Cur_one b c (K + 1 + i) h' 2 hb.2.2.1 (by omega) (by omega) (by omega)).mono (fun x h4 hx => ?_) (fun b' _ hb' => Or.inl hb')
    obtain ⟨⟨t, rfl⟩, hs4⟩ := hx
    have hb4 := hb.step hs4
    (try (simp (disch := first | omega | (simp <;> omega) | fail) only [push_cast, ↓reduceIte, Nat.reduceEqDiff, Nat.reduceAdd, Nat.reduceMul, Nat.reduceSub, Nat.reduceLT, Int.reduceToNat]))
    refine BdI.app hb4 (fun k hk => Or.inr hk) (by omega) fun v2 h5 hb5 => ?_
    (try (simp (disch := first | omega | (simp <;> omega) | fail) only [push_cast, ↓reduceIte, Nat.reduceEqDiff, Nat.reduceAdd, Nat.reduceMul, Nat.reduceSub, Nat.reduceLT, Int.reduceToNat]))
    have hb6 : BdI h h5 b c (K + 1 + (i + 1)) v2 (L ++ [t]) := hb5
    have hn6 : ((n : Int) - i) - 1 = (n : Int) - ((i : Int) + 1) := by omega
    all_goals (try exact ⟨_, _, rfl, hb6, by simp [hL]⟩)
    all_goals (try exact ⟨_, _, ⟨rfl, by omega⟩, hb6, by simp [hL]⟩)
    all_goals (try exact ⟨_, _, ⟨rfl, by rw [hn6]⟩, hb6, by simp [hL]⟩)
  · (try (simp only [decide_eq_true_eq, decide_eq_false_iff_not, Bool.not_eq_true', Bool.not_eq_false', Bool.and_eq_true, Bool.or_eq_true, Int.not_lt, Int.not_le] at hd)); (try (simp (disch := first | omega | (simp <;> omega) | fail) only [push_cast, ↓reduceIte, Nat.reduceEqDiff, Nat.reduceAdd, Nat.reduceMul, Nat.reduceSub, Nat.reduceLT, Int.reduceToNat]))
    have hie : i = n := by omega
    subst hie
    obtain ⟨p1, p2, p3, p4, p5, B, p6, p7⟩ := hb
    obtain ⟨o, ho1, ho2⟩ := (p6.frame (h' := filt (fun k => decide (h.length + 1 ≤ k)) h') fun k hk => filt_t (by simpa using p7 k hk)).vwB0 (n0 := 0) (fun _ _ => Nat.zero_le _)
    (try (simp (disch := first | omega | (simp <;> omega) | fail) only [push_cast, ↓reduceIte, Nat.reduceEqDiff, Nat.reduceAdd, Nat.reduceMul, Nat.reduceSub, Nat.reduceLT, Int.reduceToNat]))
    refine Call.sink (fun k => decide (h.length + 1 ≤ k)) (ts := [eO o]) rfl (fun k x t hx ht => ?_) (fun b _ hb => Or.inr (by have := of_decide_eq_true hb; omega)) ?_
    · rcases k with _ | k
      · simp at hx ht
        subst hx ht
        exact .inr ho1
      · simp at hx
    have hol : (lO o).length = i := by rw [ho2, hL]
    have g1 : H.cells (filt (fun k => !decide (h.length + 1 ≤ k)) h') h.length = some [.int .i64 0, .nils] := cells_keep (filt_t (by simp)) p4
    have g2 : ∀ k, k < h.length → (filt (fun k => !decide (h.length + 1 ≤ k)) h')[k]? = h'[k]? := fun k hk => filt_t (by simp; omega)
    have g3 : h.length < (filt (fun k => !decide (h.length + 1 ≤ k)) h').length := by rw [filt_len]; exact p1
    have g4 := p3.frame (g2 b p2)
    generalize filt (fun k => !decide (h.length + 1 ≤ k)) h' = g at *
    refine (c_spec_biSome o ((i + 15) / 16) (by rw [hol]; omega) (by omega) g).mono (fun x g5 hx => ?_) (fun _ _ h => h.elim)
    rw [hol] at hx
    generalize bitN (lO o) i = X at hx
    obtain ⟨bb, rfl, q1, q2, q3, q4⟩ := hx
    have r1 := cells_keep (q3 _ g3) g1
    have hw := cells_wr2 (cells_lt r1) (cs := [AV.int .i64 (i : Int), .sl bb 0 1 ((i + 15) / 16) ((i + 15) / 16)])
    have hpm : (h.length ≤ h.length) = True := by simp
    have hwk : ∀ k, k ≠ h.length → (wr g5 h.length [AV.int .i64 (i : Int), .sl bb 0 1 ((i + 15) / 16) ((i + 15) / 16)])[k]? = g5[k]? := fun k hk => by
      unfold wr
      rw [List.getElem?_set_ne (Ne.symm hk)]
    have f1 : ∀ k, k < h.length → k ≠ b → (wr g5 h.length [AV.int .i64 (i : Int), .sl bb 0 1 ((i + 15) / 16) ((i + 15) / 16)])[k]? = h[k]? := fun k hk hn => (hwk k (by omega)).trans ((q3 k (by omega)).trans ((g2 k hk).trans (p5 k hk hn)))
    have f2 : CurI (wr g5 h.length [AV.int .i64 (i : Int), .sl bb 0 1 ((i + 15) / 16) ((i + 15) / 16)]) b c (K + 1 + most) := ((g4.frame (q3 b (by omega))).frame (hwk b (by omega))).mono (by omega)
    have f3 := cells_keep (hwk bb (by omega)) q4
    have f4 : h.length ≤ (wr g5 h.length [AV.int .i64 (i : Int), .sl bb 0 1 ((i + 15) / 16) ((i + 15) / 16)]).length := by simp [wr]; omega
    (try (simp (disch := first | omega | (simp <;> omega) | fail) only [push_cast, ↓reduceIte, Nat.reduceEqDiff, Nat.reduceAdd, Nat.reduceMul, Nat.reduceSub, Nat.reduceLT, Int.reduceToNat, r1, hpm, hw]))
    all_goals (try exact ⟨i, (i + 15) / 16, bb, X, rfl, by omega, by omega, by omega, f4, f1, f2, f3⟩)
    all_goals (try exact ⟨i, (i + 15) / 16, bb, X, rfl, by omega, by omega, by omega, f1, f2, f3⟩)

theorem c_spec_l1Cur_among (b : Nat) (c : Option (List UInt8)) (K : Nat) (h : H) (b2 : Nat) (L : List Int) (hc : CurI h b c K) (hK : K ≤ 1000000000) (hL : 1 < L.length) (hL2 : L.length ≤ 200) (hb2 : h.cells b2 = some (L.map (.int .i64))) (hne : b2 ≠ b) :
    Call Tryz.prog 97 [.adr b 0, .sl b2 0 1 L.length L.length] h (fun b' => b' = b) (fun x h' => (∃ m : Int, x = .int .i64 m ∧ m ∈ L) ∧ CurS h h' b c (K + 1)) := by
  refine enter (by kernel_rfl) e97 (by kernel_rfl) rfl fun hok => ?_
  simp only [r97, initEnv_2]
  (try (simp (disch := first | omega | (simp <;> omega) | fail) only [push_cast, ↓reduceIte, Nat.reduceEqDiff, Nat.reduceAdd, Nat.reduceMul, Nat.reduceSub, Nat.reduceLT, Int.reduceToNat]))
  refine (c_spec_l1Cur_pick b c K h L.length hc hK (by omega) (by omega)).mono (fun x h' hx => ?_) (fun b' _ hb' => Or.inl hb')
  obtain ⟨⟨m, rfl, m0, m1⟩, hs⟩ := hx
  have hb3 : h'.cells b2 = some (L.map (.int .i64)) := by
    rw [cells_eq, hs.2.1 b2 hne, ← cells_eq]
    exact hb2
  have hmem : L.getD m.toNat 0 ∈ L := by
    have : m.toNat < L.length := by omega
    simp [this]
  (try (simp (disch := first | omega | (simp <;> omega) | fail) only [push_cast, ↓reduceIte, Nat.reduceEqDiff, Nat.reduceAdd, Nat.reduceMul, Nat.reduceSub, Nat.reduceLT, Int.reduceToNat, hb3]))
  all_goals (try exact ⟨⟨_, rfl, hmem⟩, hs⟩)

/-- A vector of the call's own, in a box. -/
def AbI (h h' : H) (b : Nat) (c : Option (List UInt8)) (K b3 N : Nat) : Prop :=
  b < h.length ∧ h.length + 1 ≤ b3 ∧ CurI h' b c K ∧ h'.cells h.length = some [.int .i64 0, .nils] ∧ (∀ k, k < h.length → k ≠ b → h'[k]? = h[k]?) ∧
  ∃ (n : Int) (v : AV) (l : List Int), h'.cells b3 = some [.int .i64 n, v] ∧ -(N : Int) ≤ n ∧ n ≤ 5000 + (N : Int) ∧ l.length ≤ N ∧ (∃ bb, v = .sl bb 0 1 l.length l.length ∧ h'.cells bb = some (l.map (.int .i64)) ∧ h.length + 1 ≤ bb ∧ bb ≠ b3)
theorem AbI.step {h h' h2 : H} {b K K' b3 N : Nat} {c : Option (List UInt8)} (hp : AbI h h' b c K b3 N) (hs : CurS h' h2 b c K') : AbI h h2 b c K' b3 N := by
  obtain ⟨p1, p2, p3, p4, p5, n, v, l, p6, p7, p8, p9, bb, p10, p11, p12, p13⟩ := hp
  obtain ⟨s1, s2, s3⟩ := hs
  exact ⟨p1, p2, s3, cells_keep (s2 _ (by omega)) p4, fun k hk hn => (s2 k hn).trans (p5 k hk hn), n, v, l, cells_keep (s2 _ (by omega)) p6, p7, p8, p9, bb, p10, cells_keep (s2 _ (by omega)) p11, p12, p13⟩
theorem AbI.more {h h' l : H} {b K b3 N : Nat} {c : Option (List UInt8)} (hp : AbI h h' b c K b3 N) : AbI h (h' ++ l) b c K b3 N := by
  obtain ⟨p1, p2, p3, p4, p5, n, v, l, p6, p7, p8, p9, bb, p10, p11, p12, p13⟩ := hp
  have h0 := cells_lt p4
  exact ⟨p1, p2, p3.frame (List.getElem?_append_left p3.lt), cells_app p4, fun k hk hn => (List.getElem?_append_left (by omega)).trans (p5 k hk hn), n, v, l, cells_app p6, p7, p8, p9, bb, p10, cells_app p11, p12, p13⟩
theorem AbI.monoK {h h' : H} {b K K' b3 N : Nat} {c : Option (List UInt8)} (hp : AbI h h' b c K b3 N) (hk : K ≤ K') : AbI h h' b c K' b3 N := by
  obtain ⟨p1, p2, p3, p4⟩ := hp
  exact ⟨p1, p2, p3.mono hk, p4⟩
theorem AbI.store {h g g2 : H} {b K b3 N N2 bb2 : Nat} {c : Option (List UInt8)} {n2 : Int} {l2 : List Int} (hp : AbI h g b c K b3 N) (hk : ∀ k, k < h.length + 1 ∨ k = b3 → g2[k]? = g[k]?) (hl : g.length ≤ g2.length) (h1 : -(N2 : Int) ≤ n2) (h2 : n2 ≤ 5000 + (N2 : Int)) (h3 : l2.length ≤ N2) (hb : g2.cells bb2 = some (l2.map (.int .i64))) (hb1 : h.length + 1 ≤ bb2) (hb2 : bb2 ≠ b3) :
    AbI h (wr g2 b3 [.int .i64 n2, .sl bb2 0 1 l2.length l2.length]) b c K b3 N2 := by
  obtain ⟨p1, p2, p3, p4, p5, n, v, l, p6, _⟩ := hp
  have hb3 := cells_lt p6
  have hw : ∀ k, k ≠ b3 → (wr g2 b3 [.int .i64 n2, .sl bb2 0 1 l2.length l2.length])[k]? = g2[k]? := fun k hk => by
    unfold wr
    rw [List.getElem?_set_ne (Ne.symm hk)]
  exact ⟨p1, p2, p3.frame ((hw _ (by omega)).trans (hk _ (.inl (by omega)))), cells_keep ((hw _ (by omega)).trans (hk _ (.inl (by omega)))) p4, fun k hk1 hn => (hw _ (by omega)).trans ((hk _ (.inl (by omega))).trans (p5 k hk1 hn)), n2, _, l2, cells_wr2 (by omega), h1, h2, h3, bb2, rfl, cells_keep (hw _ hb2) hb, hb1, hb2⟩
theorem AbI.put {h g : H} {b K b3 N bb : Nat} {c : Option (List UInt8)} {n : Int} {l l2 : List Int} (hp : AbI h g b c K b3 N) (h6 : g.cells b3 = some [.int .i64 n, .sl bb 0 1 l.length l.length]) (hn1 : -(N : Int) ≤ n) (hn2 : n ≤ 5000 + (N : Int)) (hN : l.length ≤ N) (hb1 : h.length + 1 ≤ bb) (hb2 : bb ≠ b3) (hb : bb < g.length) (hl : l2.length = l.length) :
    AbI h (wr g bb (l2.map (.int .i64))) b c K b3 N := by
  obtain ⟨p1, p2, p3, p4, p5, _⟩ := hp
  have hw : ∀ k, k ≠ bb → (wr g bb (l2.map (.int .i64)))[k]? = g[k]? := fun k hk => by
    unfold wr
    rw [List.getElem?_set_ne (Ne.symm hk)]
  exact ⟨p1, p2, p3.frame (hw _ (by omega)), cells_keep (hw _ (by omega)) p4, fun k hk1 hn => (hw _ (by omega)).trans (p5 k hk1 hn), n, _, l2, cells_keep (hw _ (Ne.symm hb2)) h6, hn1, hn2, by omega, bb, by rw [hl], cells_wr2 hb, hb1, hb2⟩
theorem set_over2 {vs : List Int} {i : Nat} {x : Int} (hi : i < vs.length) : over (vs.map (AV.int .i64)) i [.int .i64 x] = (vs.set i x).map (.int .i64) := by
  rw [over_set (by simpa using hi), List.map_set]

set_option maxHeartbeats 4000000 in
theorem c_spec_l1Cur_anyBits_x (b : Nat) (c : Option (List UInt8)) (K : Nat) (h : H) (hc : CurI h b c K) (hK : K ≤ 10000000) :
    Call Tryz.prog 68 [.adr b 0] h (fun b' => b' = b) (fun x h' => ∃ (n : Int) (l : List Int) (bb : Nat), n ≤ 5300 ∧ x = .agg [.int .i64 n, .sl bb 0 1 l.length l.length] ∧ l.length ≤ 300 ∧ h.length ≤ bb ∧ h.length ≤ h'.length ∧ (∀ k, k < h.length → k ≠ b → h'[k]? = h[k]?) ∧ CurI h' b c (K + 60) ∧ h'.cells bb = some (l.map (.int .i64))) := by
  refine enter (by kernel_rfl) e68 (by kernel_rfl) rfl fun hok => ?_
  simp only [r68, initEnv_1]
  generalize hD : RCode.block 0 _ = D
  have hbl := hc.lt
  (try (simp (disch := first | omega | (simp <;> omega) | fail) only [push_cast, ↓reduceIte, Nat.reduceEqDiff, Nat.reduceAdd, Nat.reduceMul, Nat.reduceSub, Nat.reduceLT, Int.reduceToNat]))
  refine (c_spec_l1Cur_bits b c K _ 40 (hc.frame (List.getElem?_append_left hbl)) (by omega) (by omega) (by omega)).mono (fun x h1 hx => ?_) (fun b' _ hb' => Or.inl hb')
  obtain ⟨n, m, bb, B, rfl, q1, q2, q3, q4, q5, q6, q7⟩ := hx
  simp only [List.length_append, List.length_cons, List.length_nil] at q3 q4
  have hA : AbI h (h1 ++ [some (.cells [.int .i64 n, .sl bb 0 1 m m])]) b c (K + 41) h1.length 10 := by
    have hb1 := cells_lt q7
    refine ⟨hbl, by omega, (q6.frame (List.getElem?_append_left q6.lt)).mono (by omega), cells_app (cells_keep (q5 h.length (by simp) (by omega)) (by rw [cells_h0]; rfl)), fun k hk hn => (List.getElem?_append_left (by omega)).trans ((q5 k (by simp; omega) hn).trans (List.getElem?_append_left hk)), n, _, wordsN B m, by rw [cells_h0]; rfl, by omega, by omega, by rw [wordsN_len]; omega, bb, by rw [wordsN_len], cells_app q7, by omega, by omega⟩
  clear q1 q2 q5 q6 q7
  have hb3 : h1.length = h1.length := rfl
  (try (simp (disch := first | omega | (simp <;> omega) | fail) only [push_cast, ↓reduceIte, Nat.reduceEqDiff, Nat.reduceAdd, Nat.reduceMul, Nat.reduceSub, Nat.reduceLT, Int.reduceToNat]))
  generalize hG : h1 ++ [some (.cells [.int .i64 (n : Int), .sl bb 0 1 m m])] = g at *
  generalize h1.length = b3 at *
  refine (c_spec_l1Cur_pick b c (K + 41) _ 16 hA.2.2.1 (by omega) (by omega) (by omega)).mono (fun x h2 hx => ?_) (fun b' _ hb' => Or.inl hb')
  obtain ⟨⟨k, rfl, k0, k1⟩, hs⟩ := hx
  have hA2 := hA.step hs
  clear hA hG hs
  (try (simp (disch := first | omega | (simp <;> omega) | fail) only [push_cast, ↓reduceIte, Nat.reduceEqDiff, Nat.reduceAdd, Nat.reduceMul, Nat.reduceSub, Nat.reduceLT, Int.reduceToNat]))
  refine T_cut (fun e g => Pins e [(2, .adr h.length 0), (3, .adr b3 0)] ∧ AbI h g b c (K + 60) b3 300) ?_ ?_
  · rw [← hD]
    obtain ⟨p1, p2, p3, p4, p5, n, v, l, p6, p7, p8, p9, bb, hv, p11, p12, p13⟩ := id hA2
    have hv1 : one v = true := by rw [hv]; rfl
    have hv2 : cellsOf v = [v] := by rw [hv]; rfl
    have hb3 := cells_lt p6
    have hbb := cells_lt p11
    have p6' : ∀ l' : H, H.cells (h2 ++ l') b3 = some [.int .i64 n, v] := fun l' => cells_app p6
    by_cases z0 : k = 0
    · (try (simp (disch := first | omega | (simp <;> omega) | fail) only [push_cast, ↓reduceIte, Nat.reduceEqDiff, Nat.reduceAdd, Nat.reduceMul, Nat.reduceSub, Nat.reduceLT, Int.reduceToNat, z0, p6, reads, List.mem_cons, List.mem_append, List.not_mem_nil, nat_ff, or_self, or_false, false_or, not_false_eq_true]))
      repeat' (with_reducible refine And.intro ?_ ?_)
      all_goals
        refine (c_spec_l1Cur_pick b c (K + 42) _ 2 hA2.2.2.1 (by omega) (by omega) (by omega)).mono (fun x h4 hx => ?_) (fun b' _ hb' => Or.inl hb')
        obtain ⟨⟨q, rfl, q0, q1⟩, hs⟩ := hx
        have hA4 := hA2.step hs
        have r6 := cells_keep (hs.2.1 b3 (by omega)) p6
        have r6' : ∀ l' : H, H.cells (h4 ++ l') b3 = some [.int .i64 n, v] := fun l' => cells_app r6
        have r11 := cells_keep (hs.2.1 bb (by omega)) p11
        have hs1 : S1 h4 1 v l.length (l.map (.int .i64)) [bb] := ⟨by simp, .inr ⟨bb, hv, rfl, r11⟩⟩
        have l4 := cells_lt r11
        have l5 := cells_lt r6
        (try (simp (disch := first | omega | (simp <;> omega) | fail) only [push_cast, ↓reduceIte, Nat.reduceEqDiff, Nat.reduceAdd, Nat.reduceMul, Nat.reduceSub, Nat.reduceLT, Int.reduceToNat, r6, r6', reads, List.mem_cons, List.mem_append, List.not_mem_nil, nat_ff, or_self, or_false, false_or, not_false_eq_true]))
        repeat' (with_reducible refine And.intro ?_ ?_)
      all_goals
        refine (hs1.frame (h' := h4 ++ _) fun k hk => List.getElem?_append_left (hs1.lt k hk)).app0 (new := [.int .i64 q]) (k := 1) (by_ := 8) (fun k hk => Or.inr (by simp at hk; omega)) rfl (by omega) fun v2 h5 B2 a1 a2 a3 a4 a5 => ?_
        rcases a1.2 with ⟨_, h0, _⟩ | ⟨b2, rfl, rfl, hc2⟩
        · omega
        simp only [List.length_append, List.length_cons, List.length_nil] at a2 a3 a4
        have l6 := cells_lt p4
        have l7 := hs.1
        have hk5 : ∀ k, k < h.length + 1 ∨ k = b3 → h5[k]? = h4[k]? := fun k hk => (a3 k (by omega) (by simp; omega)).trans (List.getElem?_append_left (by omega))
        have hb2 := a4 b2 (by simp)
        simp only [List.mem_singleton] at hb2
        have hlen : (l ++ [q]).length = l.length + 1 := by simp
        have hfin := hA4.store (n2 := n) (l2 := l ++ [q]) (bb2 := b2) (N2 := 300) hk5 (by omega) (by omega) (by omega) (by rw [hlen]; omega) (by simpa using hc2) (by omega) (by omega)
        have t6 := cells_keep (hk5 b3 (.inr rfl)) r6
        rw [hlen] at hfin
        (try (simp (disch := first | omega | (simp <;> omega) | fail) only [push_cast, ↓reduceIte, Nat.reduceEqDiff, Nat.reduceAdd, Nat.reduceMul, Nat.reduceSub, Nat.reduceLT, Int.reduceToNat, t6, reads, List.mem_cons, List.mem_append, List.not_mem_nil, nat_ff, or_self, or_false, false_or, not_false_eq_true]))
        all_goals (try exact hfin.monoK (by omega))
    by_cases z1 : k = 1
    · (try (simp (disch := first | omega | (simp <;> omega) | fail) only [push_cast, ↓reduceIte, Nat.reduceEqDiff, Nat.reduceAdd, Nat.reduceMul, Nat.reduceSub, Nat.reduceLT, Int.reduceToNat, z1, p6, reads, List.mem_cons, List.mem_append, List.not_mem_nil, nat_ff, or_self, or_false, false_or, not_false_eq_true]))
      repeat' (with_reducible refine And.intro ?_ ?_)
      all_goals
        refine (c_spec_l1Cur_pick b c (K + 42) _ 3 hA2.2.2.1 (by omega) (by omega) (by omega)).mono (fun x h4 hx => ?_) (fun b' _ hb' => Or.inl hb')
        obtain ⟨⟨q, rfl, q0, q1⟩, hs⟩ := hx
        have hA4 := hA2.step hs
        have r6 := cells_keep (hs.2.1 b3 (by omega)) p6
        have r11 := cells_keep (hs.2.1 bb (by omega)) p11
        have hfin := hA4.store (n2 := n + (q - 1)) (l2 := l) (bb2 := bb) (N2 := 300) (fun _ _ => rfl) (Nat.le_refl _) (by omega) (by omega) (by omega) r11 (by omega) (by omega)
        rw [← hv] at hfin
        (try (simp (disch := first | omega | (simp <;> omega) | fail) only [push_cast, ↓reduceIte, Nat.reduceEqDiff, Nat.reduceAdd, Nat.reduceMul, Nat.reduceSub, Nat.reduceLT, Int.reduceToNat, r6, reads, List.mem_cons, List.mem_append, List.not_mem_nil, nat_ff, or_self, or_false, false_or, not_false_eq_true]))
      all_goals (try exact hfin.monoK (by omega))
    by_cases z2 : k = 2
    · have hlv : lenA v = some (.int .i64 l.length) := by rw [hv]; rfl
      have hrep : List.replicate 4 (AV.int .i64 0) = [.int .i64 0, .int .i64 0, .int .i64 0, .int .i64 0] := rfl
      have ov0 := fun x0 x1 x2 x3 y => (over4 x0 x1 x2 x3 y).1
      have ov1 := fun x0 x1 x2 x3 y => (over4 x0 x1 x2 x3 y).2.1
      have ov2 := fun x0 x1 x2 x3 y => (over4 x0 x1 x2 x3 y).2.2.1
      have ov3 := fun x0 x1 x2 x3 y => (over4 x0 x1 x2 x3 y).2.2.2
      have hfin0 : AbI h h2 b c (K + 60) b3 300 := by
        obtain ⟨o1, o2, o3, o4, o5, n', v', l', o6, o7, o8, o9, o10⟩ := hA2.monoK (show K + 41 + 1 ≤ K + 60 by omega)
        exact ⟨o1, o2, o3, o4, o5, n', v', l', o6, by omega, by omega, by omega, o10⟩
      have fin : ∀ (g h7 : H) (q m : Int) (K' : Nat), AbI h g b c K' b3 10 → CurS g h7 b c (K + 50) → g.cells b3 = some [.int .i64 n, v] → g.cells bb = some (l.map (.int .i64)) → h7.cells bb = some (l.map (.int .i64)) ∧ AbI h (wr h7 bb ((l.set q.toNat m).map (.int .i64))) b c (K + 60) b3 300 := fun g h7 q m K' hg hs g6 g11 => by
        have hA7 := (hg.step hs).monoK (show K + 50 ≤ K + 60 by omega)
        have t6 := cells_keep (hs.2.1 b3 (by omega)) g6
        have t11 := cells_keep (hs.2.1 bb (by omega)) g11
        rw [hv] at t6
        have := hA7.put (l2 := l.set q.toNat m) t6 p7 p8 p9 p12 p13 (cells_lt t11) (by simp)
        obtain ⟨o1, o2, o3, o4, o5, n', v', l', o6, o7, o8, o9, o10⟩ := this
        exact ⟨t11, o1, o2, o3, o4, o5, n', v', l', o6, by omega, by omega, by omega, o10⟩
      (try (simp (disch := first | omega | (simp <;> omega) | fail) only [push_cast, ↓reduceIte, Nat.reduceEqDiff, Nat.reduceAdd, Nat.reduceMul, Nat.reduceSub, Nat.reduceLT, Int.reduceToNat, z2, p6, hlv, reads, List.mem_cons, List.mem_append, List.not_mem_nil, nat_ff, or_self, or_false, false_or, not_false_eq_true]))
      first | refine goC_split (fun hd => ?_) (fun hd => ?_) | refine cnd_split (fun hd => ?_) (fun hd => ?_)
      · (try (simp only [decide_eq_true_eq, decide_eq_false_iff_not, Bool.not_eq_true', Bool.not_eq_false', Bool.and_eq_true, Bool.or_eq_true, Int.not_lt, Int.not_le] at hd)); (try (simp (disch := first | omega | (simp <;> omega) | fail) only [push_cast, ↓reduceIte, Nat.reduceEqDiff, Nat.reduceAdd, Nat.reduceMul, Nat.reduceSub, Nat.reduceLT, Int.reduceToNat]))
        subst hv
        have hpm2 : (bb = b ∨ h.length ≤ bb) = True := by rw [eq_iff_iff]; exact ⟨fun _ => trivial, fun _ => Or.inr (by omega)⟩
        (try (simp (disch := first | omega | (simp <;> omega) | fail) only [push_cast, ↓reduceIte, Nat.reduceEqDiff, Nat.reduceAdd, Nat.reduceMul, Nat.reduceSub, Nat.reduceLT, Int.reduceToNat, p6, p6', hrep, ov0, ov1, ov2, ov3, reads, List.mem_cons, List.mem_append, List.not_mem_nil, nat_ff, or_self, or_false, false_or, not_false_eq_true]))
        repeat' (with_reducible refine And.intro ?_ ?_)
        all_goals
          first
          | (refine (c_spec_l1Cur_pickAny b c (K + 42) h2 (l.length : Int) hA2.2.2.1 (by omega) (by omega)).mono (fun x h4 hx => ?_) (fun b' _ hb' => Or.inl hb')
             obtain ⟨⟨q, rfl, q0, q1⟩, hs⟩ := hx
             have hA4 := hA2.step hs
             have r6 := cells_keep (hs.2.1 b3 (by omega)) p6
             have r6' := fun l' : H => cells_app (l := l') r6
             have r11 := cells_keep (hs.2.1 bb (by omega)) p11
             have l4 := cells_lt r11
             have l5 := cells_lt r6
             (try (simp (disch := first | omega | (simp <;> omega) | fail) only [push_cast, ↓reduceIte, Nat.reduceEqDiff, Nat.reduceAdd, Nat.reduceMul, Nat.reduceSub, Nat.reduceLT, Int.reduceToNat, r6, r6', hrep, ov0, ov1, ov2, ov3, reads, List.mem_cons, List.mem_append, List.not_mem_nil, nat_ff, or_self, or_false, false_or, not_false_eq_true]))
             repeat' (with_reducible refine And.intro ?_ ?_)
             all_goals
               refine (c_spec_l1Cur_among b c (K + 43) (h4 ++ [some (AObj.cells (([-1, 65535, 65536, 40000] : List Int).map (.int .i64)))]) h4.length [-1, 65535, 65536, 40000] hA4.more.2.2.1 (by omega) (by decide) (by decide) (by rw [cells_h0]; rfl) (by omega)).mono (fun x h7 hx => ?_) (fun b' _ hb' => Or.inl hb')
               obtain ⟨⟨mm, rfl, _⟩, hs7⟩ := hx
               obtain ⟨t11, hfin⟩ := fin _ h7 q mm _ hA4.more ⟨hs7.1, hs7.2.1, hs7.2.2.mono (by omega)⟩ (cells_app r6) (cells_app r11)
               have t6 := cells_keep (hs7.2.1 b3 (by omega)) (cells_app r6)
               have hov := set_over2 (vs := l) (i := q.toNat) (x := mm) (by omega)
               have hll : (l.map (AV.int .i64)).length = l.length := by simp
               (try (simp (disch := first | omega | (simp <;> omega) | fail) only [push_cast, ↓reduceIte, Nat.reduceEqDiff, Nat.reduceAdd, Nat.reduceMul, Nat.reduceSub, Nat.reduceLT, Int.reduceToNat, t6, t11, hll, hov, hpm2, reads, List.mem_cons, List.mem_append, List.not_mem_nil, nat_ff, or_self, or_false, false_or, not_false_eq_true]))
               all_goals (try exact hfin))
          | (refine (c_spec_l1Cur_pickAny b c (K + 42) (h2 ++ [some (AObj.cells (([-1, 65535, 65536, 40000] : List Int).map (.int .i64)))]) (l.length : Int) hA2.more.2.2.1 (by omega) (by omega)).mono (fun x h4 hx => ?_) (fun b' _ hb' => Or.inl hb')
             obtain ⟨⟨q, rfl, q0, q1⟩, hs⟩ := hx
             have hA4 := hA2.more.step hs
             have r6 := cells_keep (hs.2.1 b3 (by omega)) (cells_app p6)
             have r6' := fun l' : H => cells_app (l := l') r6
             have r11 := cells_keep (hs.2.1 bb (by omega)) (cells_app p11)
             have rl : h4.cells h2.length = some (([-1, 65535, 65536, 40000] : List Int).map (.int .i64)) := cells_keep (hs.2.1 h2.length (by omega)) (by rw [cells_h0]; rfl)
             have l4 := cells_lt r11
             have l5 := cells_lt r6
             (try (simp (disch := first | omega | (simp <;> omega) | fail) only [push_cast, ↓reduceIte, Nat.reduceEqDiff, Nat.reduceAdd, Nat.reduceMul, Nat.reduceSub, Nat.reduceLT, Int.reduceToNat, r6, r6', reads, List.mem_cons, List.mem_append, List.not_mem_nil, nat_ff, or_self, or_false, false_or, not_false_eq_true]))
             repeat' (with_reducible refine And.intro ?_ ?_)
             all_goals
               refine (c_spec_l1Cur_among b c (K + 43) h4 h2.length [-1, 65535, 65536, 40000] hA4.2.2.1 (by omega) (by decide) (by decide) rl (by omega)).mono (fun x h7 hx => ?_) (fun b' _ hb' => Or.inl hb')
               obtain ⟨⟨mm, rfl, _⟩, hs7⟩ := hx
               obtain ⟨t11, hfin⟩ := fin _ h7 q mm _ hA4 ⟨hs7.1, hs7.2.1, hs7.2.2.mono (by omega)⟩ r6 r11
               have t6 := cells_keep (hs7.2.1 b3 (by omega)) r6
               have hov := set_over2 (vs := l) (i := q.toNat) (x := mm) (by omega)
               have hll : (l.map (AV.int .i64)).length = l.length := by simp
               (try (simp (disch := first | omega | (simp <;> omega) | fail) only [push_cast, ↓reduceIte, Nat.reduceEqDiff, Nat.reduceAdd, Nat.reduceMul, Nat.reduceSub, Nat.reduceLT, Int.reduceToNat, t6, t11, hll, hov, hpm2, reads, List.mem_cons, List.mem_append, List.not_mem_nil, nat_ff, or_self, or_false, false_or, not_false_eq_true]))
               all_goals (try exact hfin))
      · (try (simp only [decide_eq_true_eq, decide_eq_false_iff_not, Bool.not_eq_true', Bool.not_eq_false', Bool.and_eq_true, Bool.or_eq_true, Int.not_lt, Int.not_le] at hd)); (try (simp (disch := first | omega | (simp <;> omega) | fail) only [push_cast, ↓reduceIte, Nat.reduceEqDiff, Nat.reduceAdd, Nat.reduceMul, Nat.reduceSub, Nat.reduceLT, Int.reduceToNat]))
        (try (simp (disch := first | omega | (simp <;> omega) | fail) only [push_cast, ↓reduceIte, Nat.reduceEqDiff, Nat.reduceAdd, Nat.reduceMul, Nat.reduceSub, Nat.reduceLT, Int.reduceToNat, reads, List.mem_cons, List.mem_append, List.not_mem_nil, nat_ff, or_self, or_false, false_or, not_false_eq_true]))
        all_goals (try exact hfin0)
    by_cases z3 : k = 3
    · (try (simp (disch := first | omega | (simp <;> omega) | fail) only [push_cast, ↓reduceIte, Nat.reduceEqDiff, Nat.reduceAdd, Nat.reduceMul, Nat.reduceSub, Nat.reduceLT, Int.reduceToNat, z3, reads, List.mem_cons, List.mem_append, List.not_mem_nil, nat_ff, or_self, or_false, false_or, not_false_eq_true]))
      refine (c_spec_l1Cur_pick b c (K + 42) _ 2 hA2.2.2.1 (by omega) (by omega) (by omega)).mono (fun x h4 hx => ?_) (fun b' _ hb' => Or.inl hb')
      obtain ⟨⟨q, rfl, q0, q1⟩, hs⟩ := hx
      have hA4 := hA2.step hs
      have r6 := cells_keep (hs.2.1 b3 (by omega)) p6
      obtain ⟨nn, hnn⟩ : ∃ nn : Nat, (4096 : Int) - q = (nn : Int) := ⟨((4096 : Int) - q).toNat, by omega⟩
      (try (simp (disch := first | omega | (simp <;> omega) | fail) only [push_cast, ↓reduceIte, Nat.reduceEqDiff, Nat.reduceAdd, Nat.reduceMul, Nat.reduceSub, Nat.reduceLT, Int.reduceToNat, hnn]))
      refine (c_spec_biNew_own nn ((nn + 15) / 16) (by omega) (by omega) _).mono (fun x h5 hx => ?_) (fun _ _ h => h.elim)
      obtain ⟨b5, rfl, t1, ⟨p, rfl⟩, t3⟩ := hx
      have l6 := cells_lt p4
      have l7 := hs.1
      have l8 := cells_lt r6
      have hlen : (wordsN 0 ((nn + 15) / 16)).length = (nn + 15) / 16 := wordsN_len
      have hfin := hA4.store (g2 := h4 ++ p) (n2 := nn) (l2 := wordsN 0 ((nn + 15) / 16)) (bb2 := b5) (N2 := 300) (fun k hk => List.getElem?_append_left (by omega)) (by simp) (by omega) (by omega) (by omega) t3 (by omega) (by omega)
      rw [hlen] at hfin
      have t6 := cells_app (l := p) r6
      (try (simp (disch := first | omega | (simp <;> omega) | fail) only [push_cast, ↓reduceIte, Nat.reduceEqDiff, Nat.reduceAdd, Nat.reduceMul, Nat.reduceSub, Nat.reduceLT, Int.reduceToNat, r6, t6, reads, List.mem_cons, List.mem_append, List.not_mem_nil, nat_ff, or_self, or_false, false_or, not_false_eq_true]))
      all_goals (try exact hfin.monoK (by omega))
    by_cases z4 : k = 4
    · (try (simp (disch := first | omega | (simp <;> omega) | fail) only [push_cast, ↓reduceIte, Nat.reduceEqDiff, Nat.reduceAdd, Nat.reduceMul, Nat.reduceSub, Nat.reduceLT, Int.reduceToNat, z4, reads, List.mem_cons, List.mem_append, List.not_mem_nil, nat_ff, or_self, or_false, false_or, not_false_eq_true]))
      refine (c_spec_l1Cur_pick b c (K + 42) _ 5 hA2.2.2.1 (by omega) (by omega) (by omega)).mono (fun x h4 hx => ?_) (fun b' _ hb' => Or.inl hb')
      obtain ⟨⟨q, rfl, q0, q1⟩, hs⟩ := hx
      have hA4 := hA2.step hs
      have r6 := cells_keep (hs.2.1 b3 (by omega)) p6
      obtain ⟨nn, hnn⟩ : ∃ nn : Nat, (16 : Int) * q = (nn : Int) := ⟨((16 : Int) * q).toNat, by omega⟩
      (try (simp (disch := first | omega | (simp <;> omega) | fail) only [push_cast, ↓reduceIte, Nat.reduceEqDiff, Nat.reduceAdd, Nat.reduceMul, Nat.reduceSub, Nat.reduceLT, Int.reduceToNat, hnn]))
      refine (c_spec_biNew_own nn ((nn + 15) / 16) (by omega) (by omega) _).mono (fun x h5 hx => ?_) (fun _ _ h => h.elim)
      obtain ⟨b5, rfl, t1, ⟨p, rfl⟩, t3⟩ := hx
      have l6 := cells_lt p4
      have l7 := hs.1
      have l8 := cells_lt r6
      have hlen : (wordsN 0 ((nn + 15) / 16)).length = (nn + 15) / 16 := wordsN_len
      have hfin := hA4.store (g2 := h4 ++ p) (n2 := nn) (l2 := wordsN 0 ((nn + 15) / 16)) (bb2 := b5) (N2 := 300) (fun k hk => List.getElem?_append_left (by omega)) (by simp) (by omega) (by omega) (by omega) t3 (by omega) (by omega)
      rw [hlen] at hfin
      have t6 := cells_app (l := p) r6
      (try (simp (disch := first | omega | (simp <;> omega) | fail) only [push_cast, ↓reduceIte, Nat.reduceEqDiff, Nat.reduceAdd, Nat.reduceMul, Nat.reduceSub, Nat.reduceLT, Int.reduceToNat, r6, t6, reads, List.mem_cons, List.mem_append, List.not_mem_nil, nat_ff, or_self, or_false, false_or, not_false_eq_true]))
      all_goals (try exact hfin.monoK (by omega))
    have hfin : AbI h h2 b c (K + 60) b3 300 := by
      obtain ⟨o1, o2, o3, o4, o5, n', v', l', o6, o7, o8, o9, o10⟩ := hA2.monoK (show K + 41 + 1 ≤ K + 60 by omega)
      exact ⟨o1, o2, o3, o4, o5, n', v', l', o6, by omega, by omega, by omega, o10⟩
    (try (simp (disch := first | omega | (simp <;> omega) | fail) only [push_cast, ↓reduceIte, Nat.reduceEqDiff, Nat.reduceAdd, Nat.reduceMul, Nat.reduceSub, Nat.reduceLT, Int.reduceToNat, z0, z1, z2, z3, z4, reads, List.mem_cons, List.mem_append, List.not_mem_nil, nat_ff, or_self, or_false, false_or, not_false_eq_true]))
    all_goals (try exact hfin)
  rintro e g ⟨hp, hA3⟩
  refine K_pins hp fun e => ?_
  obtain ⟨p1, p2, p3, p4, p5, n, v, l, p6, p7, p8, p9, bb, rfl, p11, p12, p13⟩ := hA3
  have h0 := cells_lt p4
  have hw := cells_wr2 h0 (cs := [AV.int .i64 n, .sl bb 0 1 l.length l.length])
  have hpm : (h.length ≤ h.length) = True := by simp
  have hwk : ∀ k, k ≠ h.length → (wr g h.length [AV.int .i64 n, .sl bb 0 1 l.length l.length])[k]? = g[k]? := fun k hk => by
    unfold wr
    rw [List.getElem?_set_ne (Ne.symm hk)]
  have f1 : ∀ k, k < h.length → k ≠ b → (wr g h.length [AV.int .i64 n, .sl bb 0 1 l.length l.length])[k]? = h[k]? := fun k hk hn => (hwk k (by omega)).trans (p5 k hk hn)
  have f2 := p3.frame (hwk b (by omega))
  have f3 := cells_keep (hwk bb (by omega)) p11
  have f4 : h.length ≤ (wr g h.length [AV.int .i64 n, .sl bb 0 1 l.length l.length]).length := by simp [wr]; omega
  (try (simp (disch := first | omega | (simp <;> omega) | fail) only [push_cast, ↓reduceIte, Nat.reduceEqDiff, Nat.reduceAdd, Nat.reduceMul, Nat.reduceSub, Nat.reduceLT, Int.reduceToNat, p4, p6, hpm, hw]))
  all_goals (try exact ⟨n, l, bb, by omega, rfl, p9, by omega, f4, f1, f2, f3⟩)
  all_goals (try exact ⟨n, l, bb, by omega, rfl, p9, by omega, f1, f2, f3⟩)
theorem c_spec_l1Cur_anyBits (b : Nat) (c : Option (List UInt8)) (K : Nat) (h : H) (hc : CurI h b c K) (hK : K ≤ 10000000) :
    Call Tryz.prog 68 [.adr b 0] h (fun b' => b' = b) (fun x h' => ∃ (n : Int) (l : List Int) (bb : Nat), x = .agg [.int .i64 n, .sl bb 0 1 l.length l.length] ∧ l.length ≤ 300 ∧ h.length ≤ bb ∧ h.length ≤ h'.length ∧ (∀ k, k < h.length → k ≠ b → h'[k]? = h[k]?) ∧ CurI h' b c (K + 60) ∧ h'.cells bb = some (l.map (.int .i64))) :=
  (c_spec_l1Cur_anyBits_x b c K h hc hK).mono (fun _ _ ⟨n, l, bb, _, hx⟩ => ⟨n, l, bb, hx⟩) fun _ _ h => h

def box0 : List AV := [.int .i64 0, .nils, .int .i64 0, .nils, .str []]
/-- A trie that is drawn, in its box. -/
def TrB (h g : H) (b : Nat) (c : Option (List UInt8)) (K b4 : Nat) (n1 : Int) (y1 : AV) (n2 : Int) (y2 : AV) (lab : Str) : Prop :=
  b < h.length ∧ h.length + 1 ≤ b4 ∧ CurF h g b c K ∧ g.cells h.length = some box0 ∧ g.cells b4 = some [.int .i64 n1, y1, .int .i64 n2, y2, .str lab] ∧
  ∃ o1 o2 F1 F2, Ow g [y1] [eI o1] F1 ∧ Ow g [y2] [eI o2] F2 ∧ (∀ k, F1 k → h.length + 1 ≤ k ∧ k ≠ b4 ∧ k < g.length) ∧ ∀ k, F2 k → h.length + 1 ≤ k ∧ k ≠ b4 ∧ k < g.length
theorem TrB.at_ {h g : H} {b K b4 : Nat} {c : Option (List UInt8)} {n1 n2 : Int} {y1 y2 : AV} {lab : Str} (hp : TrB h g b c K b4 n1 y1 n2 y2 lab) : g.cells b4 = some [.int .i64 n1, y1, .int .i64 n2, y2, .str lab] := hp.2.2.2.2.1
theorem TrB.cur {h g : H} {b K b4 : Nat} {c : Option (List UInt8)} {n1 n2 : Int} {y1 y2 : AV} {lab : Str} (hp : TrB h g b c K b4 n1 y1 n2 y2 lab) : CurI g b c K := hp.2.2.1.2.2
theorem TrB.ones {h g : H} {b K b4 : Nat} {c : Option (List UInt8)} {n1 n2 : Int} {y1 y2 : AV} {lab : Str} (hp : TrB h g b c K b4 n1 y1 n2 y2 lab) : one y1 = true ∧ cellsOf y1 = [y1] ∧ one y2 = true ∧ cellsOf y2 = [y2] := by
  obtain ⟨_, _, _, _, _, o1, o2, F1, F2, h1, h2, _, _⟩ := hp
  exact ⟨(ow_eI h1).1, (ow_eI h1).2, (ow_eI h2).1, (ow_eI h2).2⟩
theorem TrB.keep {h g g2 : H} {b K K' b4 : Nat} {c : Option (List UInt8)} {n1 n2 : Int} {y1 y2 : AV} {lab : Str} (hp : TrB h g b c K b4 n1 y1 n2 y2 lab) (hF : CurF g g2 b c K') : TrB h g2 b c K' b4 n1 y1 n2 y2 lab := by
  obtain ⟨p1, p2, p3, p4, p5, o1, o2, F1, F2, q1, q2, q3, q4⟩ := hp
  have hl := hF.1
  exact ⟨p1, p2, p3.trans hF, hF.cells p4 (by omega), hF.cells p5 (by omega), o1, o2, F1, F2, q1.frame fun k hk => hF.2.1 k (q3 k hk).2.2 (by have := (q3 k hk).1; omega), q2.frame fun k hk => hF.2.1 k (q4 k hk).2.2 (by have := (q4 k hk).1; omega), fun k hk => ⟨(q3 k hk).1, (q3 k hk).2.1, by have := (q3 k hk).2.2; omega⟩, fun k hk => ⟨(q4 k hk).1, (q4 k hk).2.1, by have := (q4 k hk).2.2; omega⟩⟩
theorem TrB.mono {h g : H} {b K K' b4 : Nat} {c : Option (List UInt8)} {n1 n2 : Int} {y1 y2 : AV} {lab : Str} (hp : TrB h g b c K b4 n1 y1 n2 y2 lab) (hk : K ≤ K') : TrB h g b c K' b4 n1 y1 n2 y2 lab := hp.keep ((CurF.refl hp.cur).mono hk)
/-- Its box, put over. -/
theorem TrB.put {h g : H} {b K b4 : Nat} {c : Option (List UInt8)} {n1 n2 m1 m2 : Int} {y1 y2 z1 z2 : AV} {lab lab' : Str} {o1 o2 : Option (List Int)} {F1 F2 : Nat → Prop} (hp : TrB h g b c K b4 n1 y1 n2 y2 lab) 
    (h1 : Ow g [z1] [eI o1] F1) (h2 : Ow g [z2] [eI o2] F2) (hF1 : ∀ k, F1 k → h.length + 1 ≤ k ∧ k ≠ b4 ∧ k < g.length) (hF2 : ∀ k, F2 k → h.length + 1 ≤ k ∧ k ≠ b4 ∧ k < g.length) : TrB h (wr g b4 [.int .i64 m1, z1, .int .i64 m2, z2, .str lab']) b c K b4 m1 z1 m2 z2 lab' := by
  obtain ⟨p1, p2, p3, p4, p5, _⟩ := hp
  have hw : ∀ k, k ≠ b4 → (wr g b4 [.int .i64 m1, z1, .int .i64 m2, z2, .str lab'])[k]? = g[k]? := fun k hk => by
    unfold wr
    rw [List.getElem?_set_ne (Ne.symm hk)]
  have hlw : (wr g b4 [.int .i64 m1, z1, .int .i64 m2, z2, .str lab']).length = g.length := by simp [wr]
  exact ⟨p1, p2, ⟨by rw [hlw]; exact p3.1, fun k hk hn => (hw k (by omega)).trans (p3.2.1 k hk hn), p3.2.2.frame (hw b (by omega))⟩, cells_keep (hw _ (by omega)) p4, cells_wr2 (cells_lt p5), o1, o2, F1, F2, h1.frame fun k hk => hw k (hF1 k hk).2.1, h2.frame fun k hk => hw k (hF2 k hk).2.1, fun k hk => by rw [hlw]; exact hF1 k hk, fun k hk => by rw [hlw]; exact hF2 k hk⟩
theorem ow_bools {h : H} {x : AV} {N : List Bool} {G : Nat → Prop} (ho : Ow h [x] [eO (some N)] G) : ∃ b, x = .sl b 0 1 N.length N.length ∧ G b ∧ h.cells b = some (N.map .bool) := by
  obtain ⟨b, cs, F, rfl, hc, hl, hb, hF, hin, _⟩ := Ow.open_ (show Ow h [x] [.ro 1 _ _] G from ho)
  exact ⟨b, rfl, hb, by rw [hc, ow_atoms_eqT hin fun t ht => by obtain ⟨q, _, rfl⟩ := List.mem_map.1 ht; rfl]⟩
/-- What is seen of it, once it is in the result's box. -/
theorem TrB.fin {h g : H} {b K b4 : Nat} {c : Option (List UInt8)} {n1 n2 : Int} {y1 y2 : AV} {lab : Str} (hp : TrB h g b c K b4 n1 y1 n2 y2 lab) (cs : List AV) : ∃ t, Vw (wr g h.length cs) h.length (.agg [.int .i64 n1, y1, .int .i64 n2, y2, .str lab]) t ∧ (∃ t' : Tr, t = eTr t' ∧ t'.en.size = n2) ∧ CurF h (wr g h.length cs) b c K := by
  obtain ⟨p1, p2, p3, p4, p5, o1, o2, F1, F2, q1, q2, q3, q4⟩ := hp
  have hw : ∀ k, k ≠ h.length → (wr g h.length cs)[k]? = g[k]? := fun k hk => by
    unfold wr
    rw [List.getElem?_set_ne (Ne.symm hk)]
  have v1 := (q1.frame (h' := wr g h.length cs) fun k hk => hw k (by have := (q3 k hk).1; omega)).vw1 (n0 := h.length) fun k hk => by have := (q3 k hk).1; omega
  have v2 := (q2.frame (h' := wr g h.length cs) fun k hk => hw k (by have := (q4 k hk).1; omega)).vw1 (n0 := h.length) fun k hk => by have := (q4 k hk).1; omega
  refine ⟨eTr ⟨⟨n1, o1⟩, ⟨n2, o2⟩, lab⟩, .agg rfl fun j y t hy ht => ?_, ⟨_, rfl, rfl⟩, by simpa [wr] using p3.1, fun k hk hn => (hw k (by omega)).trans (p3.2.1 k hk hn), p3.2.2.frame (hw b (by omega))⟩
  rcases j with _ | _ | _ | _ | _ | j
  · simp [cTr] at hy ht
    subst hy ht
    exact .free free_int
  · simp [cTr] at hy ht
    subst hy ht
    exact v1
  · simp [cTr] at hy ht
    subst hy ht
    exact .free free_int
  · simp [cTr] at hy ht
    subst hy ht
    exact v2
  · simp [cTr] at hy ht
    subst hy ht
    exact .free free_str
  · simp at hy

/-- A cut that may also return. -/
def CR (R : Env → H → Prop) (Q : Ex → Env → H → Prop) : Ex → Env → H → Prop
  | .normal => R
  | .exit _ => fun _ _ => False
  | .ret => Q .ret
theorem CR_n {R : Env → H → Prop} {Q : Ex → Env → H → Prop} {e : Env} {h : H} : CR R Q .normal e h = R e h := (rfl)
theorem CR_r {R : Env → H → Prop} {Q : Ex → Env → H → Prop} {e : Env} {h : H} : CR R Q .ret e h = Q .ret e h := (rfl)
theorem T_cutR {P : Program} {pm : Nat → Prop} {c : RCode} {Q : Ex → Env → H → Prop} {e : Env} {h : H} (R : Env → H → Prop) (h1 : T P pm c (K P pm [] (CR R Q)) e h) (h2 : ∀ e h, R e h → Q .normal e h) : T P pm c Q e h := by
  refine T_mono ?_ h1
  intro x e h hq
  cases x with
  | normal => exact h2 e h hq
  | exit i => exact hq.elim
  | ret => exact hq
--eng CR_n CR_r

attribute [push_cast] CR_n CR_r
set_option maxHeartbeats 4000000 in
theorem c_spec_l1Cur_trie (b : Nat) (c : Option (List UInt8)) (K : Nat) (h : H) (hcu : CurI h b c K) (hK : K ≤ 100000) :
    Call Tryz.prog 35 [.adr b 0] h (fun b' => b' = b) (fun x g => (∃ t : Tr, x = eTr t ∧ t.en.size ≤ 5300) ∧ CurF h g b c (K + 900)) := by
  refine Call.cur hcu.lt ?_
  refine enter (by kernel_rfl) e35 (by kernel_rfl) rfl fun hok => ?_
  simp only [r35, initEnv_1]
  have hbl := hcu.lt
  generalize hD1 : RCode.seq (.reg (⟨some 11, .v (.mov (.t 0)), none⟩ :: _)) _ = D1
  generalize hB0 : RCode.block 0 _ = B0
  (try (simp (disch := first | omega | (simp <;> omega) | fail) only [push_cast, ↓reduceIte, Nat.reduceEqDiff, Nat.reduceAdd, Nat.reduceMul, Nat.reduceSub, Nat.reduceLT, Int.reduceToNat]))
  refine (c_spec_l1Cur_keys_x b c K (h ++ [some (.cells box0)]) 8 (hcu.frame (List.getElem?_append_left hbl)) (by omega) (by omega) (by omega)).mono (fun x g0 hx => ?_) (fun b' _ hb' => Or.inl hb')
  obtain ⟨l, hG, hl1, hl2, hl3⟩ := hx
  (try (simp (disch := first | omega | (simp <;> omega) | fail) only [push_cast, ↓reduceIte, Nat.reduceEqDiff, Nat.reduceAdd, Nat.reduceMul, Nat.reduceSub, Nat.reduceLT, Int.reduceToNat]))
  refine T_cut (fun e g => ∃ v l, Pins e [(0, .adr b 0), (2, .adr h.length 0), (3, v)] ∧ GrD AV.str (h ++ [some (.cells box0)]) g b c (K + 400) v l ∧ l.Pairwise slt ∧ (∀ s ∈ l, okKey s = true) ∧ l.length ≤ 40) ?_ ?_
  · rw [← hD1]
    (try (simp (disch := first | omega | (simp <;> omega) | fail) only [push_cast, ↓reduceIte, Nat.reduceEqDiff, Nat.reduceAdd, Nat.reduceMul, Nat.reduceSub, Nat.reduceLT, Int.reduceToNat]))
    refine (c_spec_l1Cur_one b c _ g0 20 hG.1.2.2 (by omega) (by omega) (by omega)).mono (fun y g1 hy => ?_) (fun b' _ hb' => Or.inl hb')
    obtain ⟨⟨tt, rfl⟩, hs1⟩ := hy
    have hG1 := (hG.step hs1.f).mono (K' := K + 400) (by omega)
    cases tt
    · (try (simp (disch := first | omega | (simp <;> omega) | fail) only [push_cast, ↓reduceIte, Nat.reduceEqDiff, Nat.reduceAdd, Nat.reduceMul, Nat.reduceSub, Nat.reduceLT, Int.reduceToNat]))
      all_goals (try exact ⟨_, _, rfl, hG1, hl2, hl3, by omega⟩)
      done
    · (try (simp (disch := first | omega | (simp <;> omega) | fail) only [push_cast, ↓reduceIte, Nat.reduceEqDiff, Nat.reduceAdd, Nat.reduceMul, Nat.reduceSub, Nat.reduceLT, Int.reduceToNat]))
      refine (c_spec_l1Cur_many_x b c _ g1 40 hG1.1.2.2 (by omega)).mono (fun y g2 hy => ?_) (fun b' _ hb' => Or.inl hb')
      obtain ⟨l2, ⟨hF2, hbl2, B2, hS2, hB2⟩, m1, m2, m3⟩ := hy
      have hG2 : GrD AV.str (h ++ [some (.cells box0)]) g2 b c (K + 400) y l2 := ⟨hG1.1.trans hF2, hG1.2.1, B2, hS2, fun k hk => Nat.le_trans hG1.1.1 (hB2 k hk)⟩
      (try (simp (disch := first | omega | (simp <;> omega) | fail) only [push_cast, ↓reduceIte, Nat.reduceEqDiff, Nat.reduceAdd, Nat.reduceMul, Nat.reduceSub, Nat.reduceLT, Int.reduceToNat]))
      all_goals (try exact ⟨_, _, rfl, hG2, m2, m3, by omega⟩)
      done
  · rintro e g ⟨v, l, hp, ⟨hF, _, B, hS, hB⟩, hl2, hl3, hl4⟩
    refine K_pins hp fun e => ?_
    have hKo : okKeys l = true := okKeys_of hl3 hl2 hl4
    have hNl := nodesK_cap hl4
    have htr := nodesK_tri hKo
    have hsl := htr.shape
    have hel : (endL l (nodesK l)).length = (nodesK l).length := by simp [endL]
    have hll : (labL (nodesK l)).length ≤ 2000 := by
      have : (labL (nodesK l)).length = (nodesK l).length - 1 := by simp [labL]
      omega
    have hNp : 0 < (nodesK l).length := by
      obtain ⟨R, hR, _⟩ := htr.head
      rw [hR]
      simp
    obtain ⟨o4, w4, l4⟩ := hS.vwS0 (n0 := 0) fun _ _ => Nat.zero_le _
    have ht := c_spec_trOf_o o4 (by rw [l4]; exact hKo)
    rw [l4] at ht
    have htk : tK l = ⟨mdB (shapeL (nodesK l)), mdB (endL l (nodesK l)), labL (nodesK l)⟩ := rfl
    generalize labL (nodesK l) = lab at *
    generalize shapeL (nodesK l) = shL at *
    generalize endL l (nodesK l) = enL at *
    rw [htk] at ht
    clear htk
    have hboxg : g.cells h.length = some box0 := hF.cells (k := h.length) (by rw [cells_h0]; rfl) (by omega)
    have hlg := hF.1
    simp only [List.length_append, List.length_cons, List.length_nil] at hlg
    (try (simp (disch := first | omega | (simp <;> omega) | fail) only [push_cast, ↓reduceIte, Nat.reduceEqDiff, Nat.reduceAdd, Nat.reduceMul, Nat.reduceSub, Nat.reduceLT, Int.reduceToNat]))
    refine ht.goL (.cons w4 .nil) fun x t g1 hR hx how => ?_
    subst hR
    obtain ⟨y1, y2, F1, F2, rfl, f1, f2, u1, u2, _⟩ := ow_trE how
    obtain ⟨p1, p2⟩ := ow_eI f1
    obtain ⟨p3, p4⟩ := ow_eI f2
    have hxl := hx.len
    have hFx : CurF g g1 b c (K + 400) := ⟨hx.len, fun k hk _ => hx.at_ hk, hF.2.2.frame (hx.at_ hF.2.2.lt)⟩
    have hFh : CurF h (g1 ++ [some (.cells [.int .i64 (mdB shL).size, y1, .int .i64 (mdB enL).size, y2, .str lab])]) b c (K + 400) := by
      have h0 : CurF h (h ++ [some (.cells box0)]) b c K := (CurF.refl hcu).more
      exact ((h0.trans hF).trans hFx).more
    have hA : TrB h (g1 ++ [some (.cells [.int .i64 (mdB shL).size, y1, .int .i64 (mdB enL).size, y2, .str lab])]) b c (K + 400) g1.length (mdB shL).size y1 (mdB enL).size y2 lab :=
      ⟨hbl, by omega, hFh, cells_app (hx.cells hboxg), by rw [cells_h0]; rfl, _, _, F1, F2, f1.frame fun k hk => List.getElem?_append_left (u1 k hk).2, f2.frame fun k hk => List.getElem?_append_left (u2 k hk).1.2, fun k hk => by have := u1 k hk; exact ⟨by have := this.1; omega, by have := this.2; omega, by have := this.2; simp; omega⟩, fun k hk => by have := (u2 k hk).1; exact ⟨by have := this.1; omega, by have := this.2; omega, by have := this.2; simp; omega⟩⟩
    have hb4 : h.length + 1 ≤ g1.length := hA.2.1
    have hv1 : ∀ (g' : H) K', CurF (g1 ++ [some (.cells [.int .i64 (mdB shL).size, y1, .int .i64 (mdB enL).size, y2, .str lab])]) g' b c K' → Vw g' 0 (.agg [.int .i64 (mdB shL).size, y1]) (eB (mdB shL)) := fun g' K' hF' => (Ow.aggOf (ts := cB (mdB shL)) (.atom rfl (f1.frame fun k hk => (hF'.2.1 k (by have := (u1 k hk).2; simp; omega) (by have := (u1 k hk).1; omega)).trans (List.getElem?_append_left (u1 k hk).2)))).vw0
    have hv2 : ∀ (g' : H) K', CurF (g1 ++ [some (.cells [.int .i64 (mdB shL).size, y1, .int .i64 (mdB enL).size, y2, .str lab])]) g' b c K' → Vw g' 0 (.agg [.int .i64 (mdB enL).size, y2]) (eB (mdB enL)) := fun g' K' hF' => (Ow.aggOf (ts := cB (mdB enL)) (.atom rfl (f2.frame fun k hk => (hF'.2.1 k (by have := (u2 k hk).1.2; simp; omega) (by have := (u2 k hk).1.1; omega)).trans (List.getElem?_append_left (u2 k hk).1.2)))).vw0
    clear f1 f2 u1 u2 how hx hFx hFh hboxg hS hB hF w4 ht
    (try (simp (disch := first | omega | (simp <;> omega) | fail) only [push_cast, ↓reduceIte, Nat.reduceEqDiff, Nat.reduceAdd, Nat.reduceMul, Nat.reduceSub, Nat.reduceLT, Int.reduceToNat, p1, p2, p3, p4]))
    generalize hG0 : g1 ++ [some (AObj.cells [AV.int IntKind.i64 (mdB shL).size, y1, AV.int IntKind.i64 (mdB enL).size, y2, AV.str lab])] = G0 at *
    generalize g1.length = b4 at *
    refine (c_spec_l1Cur_pick b c _ G0 14 hA.cur (by omega) (by omega) (by omega)).mono (fun y g2 hy => ?_) (fun b' _ hb' => Or.inl hb')
    obtain ⟨⟨m, rfl, m0, m1⟩, hs2⟩ := hy
    have hA2 := hA.keep hs2.f
    (try (simp (disch := first | omega | (simp <;> omega) | fail) only [push_cast, ↓reduceIte, Nat.reduceEqDiff, Nat.reduceAdd, Nat.reduceMul, Nat.reduceSub, Nat.reduceLT, Int.reduceToNat]))
    refine T_cut (fun e g => ∃ n1 z1 n2 z2 lab', Pins e [(2, .adr h.length 0), (4, .adr b4 0)] ∧ TrB h g b c (K + 700) b4 n1 z1 n2 z2 lab' ∧ n2 ≤ 5300) ?_ ?_
    · rw [← hB0]
      have hez : (mdB enL).size = (enL.length : Int) := rfl
      have at2 := hA2.at_
      have hpm4 : (h.length ≤ b4) = True := eq_true (by omega)
      by_cases z0 : m = 0
      · (try (simp (disch := first | omega | (simp <;> omega) | fail) only [push_cast, ↓reduceIte, Nat.reduceEqDiff, Nat.reduceAdd, Nat.reduceMul, Nat.reduceSub, Nat.reduceLT, Int.reduceToNat, z0, at2, p1, p2, p3, p4]))
        refine (c_spec_biList_o (mdB shL) (okBt_md (by omega))).goL (.cons (hv1 g2 _ hs2.f) .nil) fun z t' g3 hR hx3 how3 => ?_
        obtain ⟨oz, rfl, hz⟩ := hR
        rw [btL_md] at hz
        have hxl3 := hx3.len
        have hF3 : CurF g2 g3 b c (K + 401) := ⟨hx3.len, fun k hk _ => hx3.at_ hk, hA2.cur.frame (hx3.at_ hA2.cur.lt)⟩
        have hA3 := hA2.keep hF3
        cases oz with
        | none =>
          have hz' : [] = shL := hz
          have : shL.length = 0 := by rw [← hz']; rfl
          omega
        | some L0 =>
          have hz' : L0 = shL := hz
          subst hz'
          obtain ⟨bz, rfl, hbz, hcz⟩ := ow_bools how3
          (try (simp (disch := first | omega | (simp <;> omega) | fail) only [push_cast, ↓reduceIte, Nat.reduceEqDiff, Nat.reduceAdd, Nat.reduceMul, Nat.reduceSub, Nat.reduceLT, Int.reduceToNat, p1, p2, p3, p4]))
          refine (c_spec_l1Cur_pickA b c _ g3 L0.length hA3.cur (by omega) (by omega)).mono (fun y g4 hy => ?_) (fun b' _ hb' => Or.inl hb')
          obtain ⟨⟨mp, rfl, mp0, _, mp1⟩, hF4⟩ := hy
          obtain ⟨p, rfl⟩ : ∃ p : Nat, mp = (p : Int) := ⟨mp.toNat, by omega⟩
          have hp1 : p < L0.length := by have := mp1 (by omega); omega
          have hbz1 := hbz.1
          have hcz4 : g4.cells bz = some (L0.map .bool) := hF4.cells hcz (by have := hA2.cur.lt; omega)
          have hl4 := hF4.1
          have hiaz : iaddrA 1 (.sl bz 0 1 L0.length L0.length) (.int .i64 (p : Int)) = some (.adr bz p) := by
            rw [iaddrA_sl (by omega) (by omega)]
            simp
          have hgz : (L0.map AV.bool)[p]? = some (.bool (L0.getD p false)) := by simp [hp1]
          have hnz : g2.length ≤ bz := hbz1
          have hb2 := hA2.cur.lt
          have hset : over (L0.map AV.bool) p [.bool (!(L0.getD p false))] = (L0.set p (!(L0.getD p false))).map .bool := by rw [over_set (by simp; exact hp1), List.map_set]
          obtain ⟨L', hL'⟩ : ∃ L', L' = L0.set p (!(L0.getD p false)) := ⟨_, rfl⟩
          have hLl : L'.length = L0.length := by rw [hL']; simp
          have hlm : (L0.map AV.bool).length = L0.length := by simp
          have hpmz : (h.length ≤ bz) = True := eq_true (by have := hA2.2.2.1.1; omega)
          (try (simp (disch := first | omega | (simp <;> omega) | fail) only [push_cast, ↓reduceIte, Nat.reduceEqDiff, Nat.reduceAdd, Nat.reduceMul, Nat.reduceSub, Nat.reduceLT, Int.reduceToNat, hiaz, hcz4, hgz, hlm, hpmz, hset, ← hL']))
          have hwz : ∀ k, k ≠ bz → (wr g4 bz (L'.map .bool))[k]? = g4[k]? := fun k hk => by
            unfold wr
            rw [List.getElem?_set_ne (Ne.symm hk)]
          have hF5 : CurF g2 (wr g4 bz (L'.map .bool)) b c (K + 403) := ⟨by simp [wr]; omega, fun k hk hn => (hwz k (by omega)).trans ((hF4.2.1 k (by omega) hn).trans (hF3.2.1 k hk hn)), (hF4.2.2.mono (by omega)).frame (hwz b (by omega))⟩
          have hA5 := hA2.keep hF5
          have hcz5 : H.cells (wr g4 bz (L'.map .bool)) bz = some (L'.map .bool) := cells_wr2 (cells_lt hcz4)
          have hbs := biSome_o (some L') (by show L'.length ≤ 5000; omega)
          have hvz : Vw (wr g4 bz (L'.map .bool)) 0 (.sl bz 0 1 L0.length L0.length) (eO (some L')) := by
            rw [← hLl]
            exact vw_all (Nat.zero_le _) hcz5 (by simp) (one_map fun _ => rfl) (free_map_ fun _ => free_bool)
          refine hbs.goL (.cons hvz .nil) fun x t' g6 hR hx6 how6 => ?_
          subst hR
          obtain ⟨wz, Fz, rfl, k1, k2, k3, k4, _⟩ := ow_bt how6
          have hF6 : CurF (wr g4 bz (L'.map .bool)) g6 b c (K + 403) := ⟨hx6.len, fun k hk _ => hx6.at_ hk, hA5.cur.frame (hx6.at_ hA5.cur.lt)⟩
          have hA6 := hA5.keep hF6
          have at6 := hA6.at_
          obtain ⟨_, r2, r3, r4, r5, o1', o2', F1', F2', q1, q2, q3, q4⟩ := id hA6
          have hpm4 : (h.length ≤ b4) = True := eq_true (by omega)
          have hl6 := hx6.len
          have hlw : (wr g4 bz (L'.map .bool)).length = g4.length := by simp [wr]
          have hb4l := cells_lt hA2.at_
          have hput := hA6.put (lab' := lab) (m1 := (L'.length : Int)) (z1 := wz) (m2 := (mdB enL).size) (z2 := y2) k1 q2 (fun k hk => ?_) q4
          · have e1 : (mdB (lO (some L'))).size = (L'.length : Int) := rfl
            (try (simp (disch := first | omega | (simp <;> omega) | fail) only [push_cast, ↓reduceIte, Nat.reduceEqDiff, Nat.reduceAdd, Nat.reduceMul, Nat.reduceSub, Nat.reduceLT, Int.reduceToNat, at6, hpm4, k3, k4, p1, p2, p3, p4]))
            all_goals (try exact ⟨_, _, _, _, _, hput.mono (by omega), by omega⟩)
            done
          · have := k2 k hk
            exact ⟨by have := this.1; omega, by have := this.1; omega, this.2⟩
      by_cases z1 : m = 1
      · (try (simp (disch := first | omega | (simp <;> omega) | fail) only [push_cast, ↓reduceIte, Nat.reduceEqDiff, Nat.reduceAdd, Nat.reduceMul, Nat.reduceSub, Nat.reduceLT, Int.reduceToNat, z1, at2, p1, p2, p3, p4]))
        refine (c_spec_biList_o (mdB enL) (okBt_md (by omega))).goL (.cons (hv2 g2 _ hs2.f) .nil) fun z t' g3 hR hx3 how3 => ?_
        obtain ⟨oz, rfl, hz⟩ := hR
        rw [btL_md] at hz
        have hxl3 := hx3.len
        have hF3 : CurF g2 g3 b c (K + 401) := ⟨hx3.len, fun k hk _ => hx3.at_ hk, hA2.cur.frame (hx3.at_ hA2.cur.lt)⟩
        have hA3 := hA2.keep hF3
        cases oz with
        | none =>
          have hz' : [] = enL := hz
          have : enL.length = 0 := by rw [← hz']; rfl
          omega
        | some L0 =>
          have hz' : L0 = enL := hz
          subst hz'
          obtain ⟨bz, rfl, hbz, hcz⟩ := ow_bools how3
          (try (simp (disch := first | omega | (simp <;> omega) | fail) only [push_cast, ↓reduceIte, Nat.reduceEqDiff, Nat.reduceAdd, Nat.reduceMul, Nat.reduceSub, Nat.reduceLT, Int.reduceToNat, p1, p2, p3, p4]))
          refine (c_spec_l1Cur_pickA b c _ g3 L0.length hA3.cur (by omega) (by omega)).mono (fun y g4 hy => ?_) (fun b' _ hb' => Or.inl hb')
          obtain ⟨⟨mp, rfl, mp0, _, mp1⟩, hF4⟩ := hy
          obtain ⟨p, rfl⟩ : ∃ p : Nat, mp = (p : Int) := ⟨mp.toNat, by omega⟩
          have hp1 : p < L0.length := by have := mp1 (by omega); omega
          have hbz1 := hbz.1
          have hcz4 : g4.cells bz = some (L0.map .bool) := hF4.cells hcz (by have := hA2.cur.lt; omega)
          have hl4 := hF4.1
          have hiaz : iaddrA 1 (.sl bz 0 1 L0.length L0.length) (.int .i64 (p : Int)) = some (.adr bz p) := by
            rw [iaddrA_sl (by omega) (by omega)]
            simp
          have hgz : (L0.map AV.bool)[p]? = some (.bool (L0.getD p false)) := by simp [hp1]
          have hnz : g2.length ≤ bz := hbz1
          have hb2 := hA2.cur.lt
          have hset : over (L0.map AV.bool) p [.bool (!(L0.getD p false))] = (L0.set p (!(L0.getD p false))).map .bool := by rw [over_set (by simp; exact hp1), List.map_set]
          obtain ⟨L', hL'⟩ : ∃ L', L' = L0.set p (!(L0.getD p false)) := ⟨_, rfl⟩
          have hLl : L'.length = L0.length := by rw [hL']; simp
          have hlm : (L0.map AV.bool).length = L0.length := by simp
          have hpmz : (h.length ≤ bz) = True := eq_true (by have := hA2.2.2.1.1; omega)
          (try (simp (disch := first | omega | (simp <;> omega) | fail) only [push_cast, ↓reduceIte, Nat.reduceEqDiff, Nat.reduceAdd, Nat.reduceMul, Nat.reduceSub, Nat.reduceLT, Int.reduceToNat, hiaz, hcz4, hgz, hlm, hpmz, hset, ← hL']))
          have hwz : ∀ k, k ≠ bz → (wr g4 bz (L'.map .bool))[k]? = g4[k]? := fun k hk => by
            unfold wr
            rw [List.getElem?_set_ne (Ne.symm hk)]
          have hF5 : CurF g2 (wr g4 bz (L'.map .bool)) b c (K + 403) := ⟨by simp [wr]; omega, fun k hk hn => (hwz k (by omega)).trans ((hF4.2.1 k (by omega) hn).trans (hF3.2.1 k hk hn)), (hF4.2.2.mono (by omega)).frame (hwz b (by omega))⟩
          have hA5 := hA2.keep hF5
          have hcz5 : H.cells (wr g4 bz (L'.map .bool)) bz = some (L'.map .bool) := cells_wr2 (cells_lt hcz4)
          have hbs := biSome_o (some L') (by show L'.length ≤ 5000; omega)
          have hvz : Vw (wr g4 bz (L'.map .bool)) 0 (.sl bz 0 1 L0.length L0.length) (eO (some L')) := by
            rw [← hLl]
            exact vw_all (Nat.zero_le _) hcz5 (by simp) (one_map fun _ => rfl) (free_map_ fun _ => free_bool)
          refine hbs.goL (.cons hvz .nil) fun x t' g6 hR hx6 how6 => ?_
          subst hR
          obtain ⟨wz, Fz, rfl, k1, k2, k3, k4, _⟩ := ow_bt how6
          have hF6 : CurF (wr g4 bz (L'.map .bool)) g6 b c (K + 403) := ⟨hx6.len, fun k hk _ => hx6.at_ hk, hA5.cur.frame (hx6.at_ hA5.cur.lt)⟩
          have hA6 := hA5.keep hF6
          have at6 := hA6.at_
          obtain ⟨_, r2, r3, r4, r5, o1', o2', F1', F2', q1, q2, q3, q4⟩ := id hA6
          have hpm4 : (h.length ≤ b4) = True := eq_true (by omega)
          have hl6 := hx6.len
          have hlw : (wr g4 bz (L'.map .bool)).length = g4.length := by simp [wr]
          have hb4l := cells_lt hA2.at_
          have hput := hA6.put (lab' := lab) (m1 := (mdB shL).size) (z1 := y1) (m2 := (L'.length : Int)) (z2 := wz) q1 k1 q3 (fun k hk => ?_)
          · have e1 : (mdB (lO (some L'))).size = (L'.length : Int) := rfl
            (try (simp (disch := first | omega | (simp <;> omega) | fail) only [push_cast, ↓reduceIte, Nat.reduceEqDiff, Nat.reduceAdd, Nat.reduceMul, Nat.reduceSub, Nat.reduceLT, Int.reduceToNat, at6, hpm4, k3, k4, p1, p2, p3, p4]))
            all_goals (try exact ⟨_, _, _, _, _, hput.mono (by omega), by omega⟩)
            done
          · have := k2 k hk
            exact ⟨by have := this.1; omega, by have := this.1; omega, this.2⟩
      by_cases z2 : m = 2
      · (try (simp (disch := first | omega | (simp <;> omega) | fail) only [push_cast, ↓reduceIte, Nat.reduceEqDiff, Nat.reduceAdd, Nat.reduceMul, Nat.reduceSub, Nat.reduceLT, Int.reduceToNat, z2, at2, p1, p2, p3, p4]))
        refine (c_spec_l1Cur_spoilt b c _ g2 lab [97, 98, 122, 125, 32] hA2.cur (by omega) (by decide) (by decide) (by omega)).mono (fun y g3 hy => ?_) (fun b' _ hb' => Or.inl hb')
        obtain ⟨⟨s', rfl⟩, hF3⟩ := hy
        have hA3 := hA2.keep hF3
        have at3 := hA3.at_
        obtain ⟨_, r2, r3, r4, r5, o1', o2', F1', F2', q1, q2, q3, q4⟩ := id hA3
        have hput := hA3.put (lab' := s') (m1 := (mdB shL).size) (z1 := y1) (m2 := (mdB enL).size) (z2 := y2) q1 q2 q3 q4
        (try (simp (disch := first | omega | (simp <;> omega) | fail) only [push_cast, ↓reduceIte, Nat.reduceEqDiff, Nat.reduceAdd, Nat.reduceMul, Nat.reduceSub, Nat.reduceLT, Int.reduceToNat, at3, hpm4, p1, p2, p3, p4]))
        all_goals (try exact ⟨_, _, _, _, _, hput.mono (by omega), by omega⟩)
        done
      by_cases z3 : m = 3
      · (try (simp (disch := first | omega | (simp <;> omega) | fail) only [push_cast, ↓reduceIte, Nat.reduceEqDiff, Nat.reduceAdd, Nat.reduceMul, Nat.reduceSub, Nat.reduceLT, Int.reduceToNat, z3, at2, p1, p2, p3, p4]))
        refine (c_spec_l1Cur_anyBits_x b c _ g2 hA2.cur (by omega)).mono (fun y g3 hy => ?_) (fun b' _ hb' => Or.inl hb')
        obtain ⟨nn, ll, bb, hnb, rfl, _, hbb, hl3, hk3, hc3, hcb3⟩ := hy
        have hF3 : CurF g2 g3 b c _ := ⟨hl3, hk3, hc3⟩
        have hA3 := hA2.keep hF3
        have at3 := hA3.at_
        have hbbl := cells_lt hcb3
        have hb4l := cells_lt at2
        have hgl := hA2.2.2.1.1
        obtain ⟨_, r2, r3, r4, r5, o1', o2', F1', F2', q1, q2, q3, q4⟩ := id hA3
        have k1 : Ow g3 [.sl bb 0 1 ll.length ll.length] [eI (some ll)] (fun k => k = bb) := ow_map (f := AV.int .i64) (fun _ => rfl) hcb3 rfl rfl
        have hput := hA3.put (lab' := lab) (m1 := (mdB shL).size) (z1 := y1) (m2 := nn) (z2 := .sl bb 0 1 ll.length ll.length) q1 k1 q3 (fun k hk => ⟨by omega, by omega, by omega⟩)
        (try (simp (disch := first | omega | (simp <;> omega) | fail) only [push_cast, ↓reduceIte, Nat.reduceEqDiff, Nat.reduceAdd, Nat.reduceMul, Nat.reduceSub, Nat.reduceLT, Int.reduceToNat, at3, hpm4, p1, p2, p3, p4]))
        all_goals (try exact ⟨_, _, _, _, _, hput.mono (by omega), by omega⟩)
        done
      · (try (simp (disch := first | omega | (simp <;> omega) | fail) only [push_cast, ↓reduceIte, Nat.reduceEqDiff, Nat.reduceAdd, Nat.reduceMul, Nat.reduceSub, Nat.reduceLT, Int.reduceToNat, z0, z1, z2, z3]))
        all_goals (try exact ⟨_, _, _, _, _, hA2.mono (by omega), by omega⟩)
        done
    · rintro e g ⟨n1, z1, n2, z2, lab', hp, hT, hn2⟩
      refine K_pins hp fun e => ?_
      have hat := hT.at_
      obtain ⟨o1, o2, o3, o4⟩ := hT.ones
      have c0 := hT.2.2.2.1
      have hpm : (h.length ≤ h.length) = True := by simp
      have hw := fun cs => cells_wr2 (cells_lt c0) (cs := cs)
      have hfin : ∀ cs, ∃ t, Vw (wr g h.length cs) h.length (.agg [.int .i64 n1, z1, .int .i64 n2, z2, .str lab']) t ∧ (∃ t' : Tr, t = eTr t' ∧ t'.en.size ≤ 5300) ∧ CurF h (wr g h.length cs) b c (K + 900) := fun cs => by
        obtain ⟨t, f1, ⟨t', f2, f3⟩, f4⟩ := (hT.mono (show K + 700 ≤ K + 900 by omega)).fin cs
        exact ⟨t, f1, ⟨t', f2, by omega⟩, f4⟩
      unfold box0 at c0
      (try (simp (disch := first | omega | (simp <;> omega) | fail) only [push_cast, ↓reduceIte, Nat.reduceEqDiff, Nat.reduceAdd, Nat.reduceMul, Nat.reduceSub, Nat.reduceLT, Int.reduceToNat, hat, c0, hpm, hw, o1, o2, o3, o4]))
      all_goals (try exact hfin _)
      done

theorem c_spec_DrawImageOfTrie (c : Option (List UInt8)) : Fn Tryz.prog 16 [eU c] (fun x => ∃ t : Tr, x = eTr t) := by
  refine Fn.froze_ fun h => ?_
  refine enter (by kernel_rfl) e16 (by kernel_rfl) rfl fun hok => ?_
  simp only [r16, initEnv_1]
  have hfb : fillA [.nils, .int .i64 0, .int .u64 0] [(0, 1, eU c)] = some [eU c, .int .i64 0, .int .u64 0] := by cases c <;> rfl
  (try (simp (disch := first | omega | (simp <;> omega) | fail) only [push_cast, ↓reduceIte, Nat.reduceEqDiff, Nat.reduceAdd, Nat.reduceMul, Nat.reduceSub, Nat.reduceLT, Int.reduceToNat, hfb]))
  refine (c_spec_l1Cur_trie (h.length + 1) c 0 (h ++ [some (.cells [.int .i64 0, .nils, .int .i64 0, .nils, .str []]), some (.cells [eU c, .int .i64 0, .int .u64 0])]) ⟨0, 0, by rw [cells_hk]; rfl, Nat.le_refl _⟩ (by omega)).mono (fun x g0 hx => ?_) (fun b' _ hb' => Or.inr (Nat.le_trans (Nat.le_succ _) (Nat.le_of_eq hb'.symm)))
  obtain ⟨⟨t, rfl, _⟩, hF⟩ := hx
  have c0 : g0.cells h.length = some [.int .i64 0, .nils, .int .i64 0, .nils, .str []] := hF.cells (k := h.length) (by rw [cells_h0]; rfl) (by omega)
  have hw := fun cs => cells_wr2 (cells_lt c0) (cs := cs)
  have hpm : (h.length ≤ h.length) = True := by simp
  have hfin : ∀ hh : H, ∃ t', Vw hh h.length (eTr t) t' ∧ ∃ t : Tr, t' = eTr t := fun hh => ⟨_, .free free_eTr, t, rfl⟩
  (try (simp (disch := first | omega | (simp <;> omega) | fail) only [push_cast, ↓reduceIte, Nat.reduceEqDiff, Nat.reduceAdd, Nat.reduceMul, Nat.reduceSub, Nat.reduceLT, Int.reduceToNat, c0, hpm, hw]))
  all_goals (try exact hfin _)
  done

end Go.Proofs.YtakjemikampncaaGreatDoor.M
