/-
  What the functions return.
-/
import Derived.Test.YtjfgmimgmapeeaaGreatFyd
import Derived.Test.YtjfgmimgmapeeaaGreatCyc
namespace Go.Proofs.YtjfgmimgmapeeaaGreat.M
open Go Go.RowKit
set_option linter.unusedVariables false
set_option linter.unusedSimpArgs false
set_option maxRecDepth 4000

theorem c_impl_isSeed (n : Int) : Fn Tryz.prog 92 [.int .i64 n] (· = .bool (decide (0 ≤ n) && decide (n ≤ 9999))) := by
  refine Fn.of free_bool fun h => ?_
  refine enter (by kernel_rfl) e92 (by kernel_rfl) rfl fun hok => ?_
  simp only [r92, initEnv_1]
  (try (simp (disch := first | omega | (simp <;> omega) | fail) only [push_cast, ↓reduceIte, Nat.reduceEqDiff, Nat.reduceAdd, Nat.reduceMul, Nat.reduceSub, Nat.reduceLT, Int.reduceToNat]))
  refine (c_impl_in _ _ _).call ?_
  (try (simp (disch := first | omega | (simp <;> omega) | fail) only [push_cast, ↓reduceIte, Nat.reduceEqDiff, Nat.reduceAdd, Nat.reduceMul, Nat.reduceSub, Nat.reduceLT, Int.reduceToNat]))

theorem c_impl_segmentOk (n : Int) : Fn Tryz.prog 93 [.int .i64 n] (· = .bool (decide (1 ≤ n) && decide (n ≤ 24))) := by
  refine Fn.of free_bool fun h => ?_
  refine enter (by kernel_rfl) e93 (by kernel_rfl) rfl fun hok => ?_
  simp only [r93, initEnv_1]
  (try (simp (disch := first | omega | (simp <;> omega) | fail) only [push_cast, ↓reduceIte, Nat.reduceEqDiff, Nat.reduceAdd, Nat.reduceMul, Nat.reduceSub, Nat.reduceLT, Int.reduceToNat]))
  refine (c_impl_in _ _ _).call ?_
  (try (simp (disch := first | omega | (simp <;> omega) | fail) only [push_cast, ↓reduceIte, Nat.reduceEqDiff, Nat.reduceAdd, Nat.reduceMul, Nat.reduceSub, Nat.reduceLT, Int.reduceToNat]))

theorem c_impl_widthOk (n : Int) : Fn Tryz.prog 94 [.int .i64 n] (· = .bool (decide (1 ≤ n) && decide (n ≤ 8))) := by
  refine Fn.of free_bool fun h => ?_
  refine enter (by kernel_rfl) e94 (by kernel_rfl) rfl fun hok => ?_
  simp only [r94, initEnv_1]
  (try (simp (disch := first | omega | (simp <;> omega) | fail) only [push_cast, ↓reduceIte, Nat.reduceEqDiff, Nat.reduceAdd, Nat.reduceMul, Nat.reduceSub, Nat.reduceLT, Int.reduceToNat]))
  refine (c_impl_in _ _ _).call ?_
  (try (simp (disch := first | omega | (simp <;> omega) | fail) only [push_cast, ↓reduceIte, Nat.reduceEqDiff, Nat.reduceAdd, Nat.reduceMul, Nat.reduceSub, Nat.reduceLT, Int.reduceToNat]))

theorem c_IndexFunc_int_cap (a : Option (List Int)) (f b0 : Nat) (cs : List AV) (g : Int → Bool) (hg : ∀ m, Fn Tryz.prog f [.int .i64 m, .rad cs 0] (· = .bool (g m))) (hfree : ∀ c ∈ cs, Free c) (h : H) (hb : h.cells b0 = some cs) (hlen0 : (lI a).length ≤ 9223372036854775807) : Call Tryz.prog 146 [eI a, .fn f [.adr b0 0]] h Nowhere (fun x h' => (∃ n : Int, x = .int .i64 n ∧ decide (0 ≤ n) = !((lI a).all fun m => !g m)) ∧ h' = h) := by
  refine Call.gc (Call.mono (?_ : Call Tryz.prog 146 [eI a, .fn f [.adr b0 0]] h Nowhere (fun x _ => ∃ n : Int, x = .int .i64 n ∧ decide (0 ≤ n) = !((lI a).all fun m => !g m))) (fun x _ ⟨n, hn, hx⟩ => ⟨⟨n, hn, hx⟩, by rw [hn]; exact free_int⟩) (fun _ _ h => h))
  refine enter (by kernel_rfl) e146 (by kernel_rfl) rfl fun hok => ?_
  simp only [r146, initEnv_2]
  have hlen := hlen0
  (try (simp (disch := first | omega | (simp <;> omega) | fail) only [push_cast, ↓reduceIte, Nat.reduceEqDiff, Nat.reduceAdd, Nat.reduceMul, Nat.reduceSub, Nat.reduceLT, Int.reduceToNat]))
  refine T_for (lI a).length (fun i e h' => Pins e [(0, eI a), (1, .fn f [.adr b0 0]), (7, .int .i64 (lI a).length), (8, .int .i64 i)] ∧ h' = h ∧ ((lI a).take i).all (fun m => !g m) = true) ?_ ?_
  · (try (simp (disch := first | omega | (simp <;> omega) | fail) only [push_cast, ↓reduceIte, Nat.reduceEqDiff, Nat.reduceAdd, Nat.reduceMul, Nat.reduceSub, Nat.reduceLT, Int.reduceToNat]))
    all_goals (try simp)
  rintro i e h' hi ⟨hp, rfl, ha⟩
  refine T_pins hp fun e => ?_
  (try (simp (disch := first | omega | (simp <;> omega) | fail) only [push_cast, ↓reduceIte, Nat.reduceEqDiff, Nat.reduceAdd, Nat.reduceMul, Nat.reduceSub, Nat.reduceLT, Int.reduceToNat]))
  first | refine goC_split (fun hc => ?_) (fun hc => ?_) | refine cnd_split (fun hc => ?_) (fun hc => ?_)
  · (try (simp only [decide_eq_true_eq, decide_eq_false_iff_not, Bool.not_eq_true', Bool.not_eq_false', Bool.and_eq_true, Bool.or_eq_true, Int.not_lt, Int.not_le] at hc)); (try (simp (disch := first | omega | (simp <;> omega) | fail) only [push_cast, ↓reduceIte, Nat.reduceEqDiff, Nat.reduceAdd, Nat.reduceMul, Nat.reduceSub, Nat.reduceLT, Int.reduceToNat]))
    have hi2 : i < (lI a).length := by omega
    (try (simp (disch := first | omega | (simp <;> omega) | fail) only [push_cast, ↓reduceIte, Nat.reduceEqDiff, Nat.reduceAdd, Nat.reduceMul, Nat.reduceSub, Nat.reduceLT, Int.reduceToNat]))
    refine (hg _).lendL (.free free_int (.adr hb hfree .nil)) own_bool ?_
    have hn : ((lI a).take (i + 1)).all (fun m => !g m) = !(g ((lI a).getD i 0)) := by
      rw [List.take_add_one, List.all_append, ha]
      simp [hi2]
    cases hk : g ((lI a).getD i 0)
    · (try (simp (disch := first | omega | (simp <;> omega) | fail) only [push_cast, ↓reduceIte, Nat.reduceEqDiff, Nat.reduceAdd, Nat.reduceMul, Nat.reduceSub, Nat.reduceLT, Int.reduceToNat]))
      rw [hn, hk]
      rfl
    · (try (simp (disch := first | omega | (simp <;> omega) | fail) only [push_cast, ↓reduceIte, Nat.reduceEqDiff, Nat.reduceAdd, Nat.reduceMul, Nat.reduceSub, Nat.reduceLT, Int.reduceToNat]))
      refine ⟨_, rfl, ?_⟩
      have : ((lI a).all fun m => !g m) = false := by
        rw [List.all_eq_false]
        exact ⟨(lI a).getD i 0, by simp [hi2], by rw [hk]; simp⟩
      rw [this]
      simp
  · (try (simp only [decide_eq_true_eq, decide_eq_false_iff_not, Bool.not_eq_true', Bool.not_eq_false', Bool.and_eq_true, Bool.or_eq_true, Int.not_lt, Int.not_le] at hc)); (try (simp (disch := first | omega | (simp <;> omega) | fail) only [push_cast, ↓reduceIte, Nat.reduceEqDiff, Nat.reduceAdd, Nat.reduceMul, Nat.reduceSub, Nat.reduceLT, Int.reduceToNat]))
    have : (lI a).take i = lI a := List.take_of_length_le (by omega)
    rw [this] at ha
    refine ⟨_, rfl, ?_⟩
    rw [ha]
    rfl

theorem c_ContainsFunc_int_cap (a : Option (List Int)) (f b0 : Nat) (cs : List AV) (g : Int → Bool) (hg : ∀ m, Fn Tryz.prog f [.int .i64 m, .rad cs 0] (· = .bool (g m))) (hfree : ∀ c ∈ cs, Free c) (h : H) (hb : h.cells b0 = some cs) (hlen0 : (lI a).length ≤ 9223372036854775807) : Call Tryz.prog 95 [eI a, .fn f [.adr b0 0]] h Nowhere (fun x h' => x = .bool (!((lI a).all fun m => !g m)) ∧ h' = h) := by
  refine Call.gc (Call.mono (?_ : Call Tryz.prog 95 [eI a, .fn f [.adr b0 0]] h Nowhere (fun x _ => x = .bool (!((lI a).all fun m => !g m)))) (fun x _ hx => ⟨hx, by rw [hx]; exact free_bool⟩) (fun _ _ h => h))
  refine enter (by kernel_rfl) e95 (by kernel_rfl) rfl fun hok => ?_
  simp only [r95, initEnv_2]
  (try (simp (disch := first | omega | (simp <;> omega) | fail) only [push_cast, ↓reduceIte, Nat.reduceEqDiff, Nat.reduceAdd, Nat.reduceMul, Nat.reduceSub, Nat.reduceLT, Int.reduceToNat]))
  refine (c_IndexFunc_int_cap a f b0 cs g hg hfree h hb hlen0).mono (fun x h' hx => ?_) (fun _ _ h => h.elim)
  obtain ⟨⟨n, rfl, hn⟩, rfl⟩ := hx
  rw [← hn]
  (try (simp (disch := first | omega | (simp <;> omega) | fail) only [push_cast, ↓reduceIte, Nat.reduceEqDiff, Nat.reduceAdd, Nat.reduceMul, Nat.reduceSub, Nat.reduceLT, Int.reduceToNat]))
  (first | refine goC_split (fun hc => ?_) (fun hc => ?_) | refine cnd_split (fun hc => ?_) (fun hc => ?_)) <;> ((try (simp (disch := first | omega | (simp <;> omega) | fail) only [push_cast, ↓reduceIte, Nat.reduceEqDiff, Nat.reduceAdd, Nat.reduceMul, Nat.reduceSub, Nat.reduceLT, Int.reduceToNat]))) <;> (try rw [hc])

def optB (l : List Bt) : Option (List Bt) := if l = [] then none else some l
theorem lB_optB {l : List Bt} : lB (optB l) = l := by
  unfold optB
  split
  · rename_i h
    rw [h]
    rfl
  · rfl

def rowT (n m : Nat) (e : List Int) : Bt := ⟨n, some (wordsN (edgeN e) m)⟩
def sysT (n m : Nat) (E : List (List Int)) (R : List Bool) : Sy := ⟨n, optB (E.map (rowT n m)), some R⟩
theorem rowT_take {n m i : Nat} {E : List (List Int)} (hi : i < E.length) : ((E.take (i + 1)).map (rowT n m)).flatMap cB = ((E.take i).map (rowT n m)).flatMap cB ++ cB (rowT n m (E.getD i [])) := by
  have h1 : E[i]?.toList = [E.getD i []] := by simp [hi]
  rw [List.take_add_one, h1, List.map_append, List.flatMap_append]
  simp
theorem okSy_T {n m : Nat} {E : List (List Int)} {R : List Bool} (h1 : 1 ≤ n) (h2 : n ≤ 72) (hm : (((n : Int) + 15) / 16) = (m : Int)) (hE : E.length ≤ 40) (hR : R.length = E.length) (he : ∀ e ∈ E, ∀ p ∈ e, 0 ≤ p ∧ p < (n : Int)) : okSy (sysT n m E R) = true := by
  have hall : (lB (sysT n m E R).rows).all (okRow (sysT n m E R).size) = true := by
    show (lB (optB (E.map (rowT n m)))).all _ = true
    rw [lB_optB, List.all_eq_true]
    intro r hr
    obtain ⟨e, hme, rfl⟩ := List.mem_map.1 hr
    unfold okRow
    rw [Bool.and_eq_true]
    exact ⟨okBt_of hm (edgeN_lt (he e hme)) (by omega), by simp [rowT, sysT]⟩
  unfold okSy
  rw [hall]
  have hl : (lB (sysT n m E R).rows).length = E.length := by
    show (lB (optB (E.map (rowT n m)))).length = _
    rw [lB_optB, List.length_map]
  have hr : (lO (sysT n m E R).right).length = R.length := rfl
  have hs : (sysT n m E R).size = n := rfl
  rw [hl, hr, hs]
  simp
  omega
/-- A system being filled: the box of the Hyper, the result's cell, the system's own box. -/
def TsI (h h' : H) (n m n0 b5 i : Nat) (vr : AV) (E : List (List Int)) (box : List AV) : Prop :=
  ∃ v, h'.cells h.length = some box ∧ h'.cells (h.length + 1) = some [.int .i64 0, .nils, .nils] ∧ h'.cells b5 = some [.int .i64 n, v, vr] ∧ OwS h' n0 2 v i (((E.take i).map (rowT n m)).flatMap cB) ∧ (i = 0 → v = .nils) ∧ h.length + 2 ≤ b5 ∧ b5 < n0 ∧ n0 ≤ h'.length
theorem OwS.frame2 {h h' : H} {n0 sz k : Nat} {v : AV} {ts : List AV} (ho : OwS h n0 sz v k ts) (hk : ∀ c, n0 ≤ c → h'[c]? = h[c]?) : OwS h' n0 sz v k ts := by
  rcases ho with h0 | ho
  · exact .inl h0
  · exact .inr (ho.frame hk)
theorem OwS.cell {h : H} {n0 sz k : Nat} {v : AV} {ts : List AV} (ho : OwS h n0 sz v k ts) : one v = true ∧ cellsOf v = [v] := by
  rcases ho with ⟨rfl, _, _⟩ | ho
  · exact ⟨rfl, rfl⟩
  · obtain ⟨b, rfl⟩ := ho.sl1
    exact ⟨rfl, rfl⟩
/-- What the result is seen as. -/
theorem TsI.out {h h' : H} {n m n0 b5 : Nat} {vr : AV} {E : List (List Int)} {R : List Bool} {box : List AV} {v : AV} (hs : OwS h' n0 2 v E.length (((E.take E.length).map (rowT n m)).flatMap cB)) (hv : E.length = 0 → v = .nils) (h0 : h.length ≤ n0) (hr : Vw h' h.length vr (eO (some R))) : Vw h' h.length (.agg [.int .i64 n, v, vr]) (eSy (sysT n m E R)) := by
  rw [List.take_length] at hs
  refine .agg rfl fun k y t hy ht => ?_
  rcases k with _ | _ | _ | k
  · simp [sysT] at hy ht
    subst hy ht
    exact .free free_int
  · simp [sysT] at hy ht
    subst hy ht
    unfold optB
    by_cases he : E.map (rowT n m) = []
    · have hE : E = [] := by simpa using he
      rw [if_pos he, hv (by rw [hE]; rfl)]
      exact .free free_nils
    · rw [if_neg he]
      rcases hs with ⟨_, h2, _⟩ | ho2
      · exact absurd (by rw [List.eq_nil_of_length_eq_zero h2]; rfl) he
      · have := ho2.vw1 (n0 := h.length) fun c hc => by omega
        show Vw h' h.length v (.ro 2 ((E.map (rowT n m)).flatMap cB) (E.map (rowT n m)).length)
        rwa [List.length_map]
  · simp [sysT] at hy ht
    subst hy ht
    exact hr
  · simp at hy
theorem TsI.step {h h' h4 : H} {n m n0 b5 b2 i : Nat} {vr v : AV} {E : List (List Int)} {box : List AV} (hr : TsI h h' n m n0 b5 i vr E box) (hi : i < E.length) (a1 : Ow h4 [.sl b2 0 2 (i + 1) (i + 1)] [.ro 2 (((E.take i).map (rowT n m)).flatMap cB ++ cB (rowT n m (E.getD i []))) (i + 1)] (fun c => n0 ≤ c)) (hk : ∀ c, c < n0 → h4[c]? = h'[c]?) (hl : n0 ≤ h4.length) :
    h4.cells b5 = h'.cells b5 ∧ TsI h (wr h4 b5 [.int .i64 n, .sl b2 0 2 (i + 1) (i + 1), vr]) n m n0 b5 (i + 1) vr E box := by
  obtain ⟨v, r1, r2, r3, r4, r5, r6, r7, r8⟩ := hr
  have hw : ∀ c, c ≠ b5 → (wr h4 b5 [AV.int .i64 n, .sl b2 0 2 (i + 1) (i + 1), vr])[c]? = h4[c]? := fun c hc => by
    unfold wr
    rw [List.getElem?_set_ne (Ne.symm hc)]
  refine ⟨by rw [cells_keep (hk b5 r7) r3, r3], _, cells_keep ((hw _ (by omega)).trans (hk _ (by omega))) r1, cells_keep ((hw _ (by omega)).trans (hk _ (by omega))) r2, cells_wr2 (by omega), .inr ?_, fun h5 => by omega, r6, r7, by simp [wr]; omega⟩
  rw [rowT_take hi]
  exact a1.frame fun c hc => hw c (by omega)
/-- A row being filled. -/
def RwI (h h' : H) (n m b9 bb x : Nat) : Prop :=
  h.length ≤ h'.length ∧ (∀ c, c < h.length → h'[c]? = h[c]?) ∧ h'.cells b9 = some [.int .i64 n, .sl bb 0 1 m m] ∧ h'.cells bb = some ((wordsN x m).map (.int .i64)) ∧ h.length ≤ bb ∧ h.length ≤ b9 ∧ b9 ≠ bb
theorem RwI.put {h h' h2 : H} {n m b9 bb x y : Nat} (hr : RwI h h' n m b9 bb x) (hl : h'.length ≤ h2.length) (hf : ∀ c, c < h'.length → c ≠ bb → h2[c]? = h'[c]?) (hc : h2.cells bb = some ((wordsN y m).map (.int .i64))) : RwI h h2 n m b9 bb y := by
  obtain ⟨h1, h2, h3, h4, h5, h6, h7⟩ := hr
  exact ⟨by omega, fun c hc => (hf c (by omega) (by omega)).trans (h2 c hc), cells_keep (hf _ (cells_lt h3) h7) h3, hc, h5, h6, h7⟩
theorem ow_row {h : H} {n m x bb : Nat} {G : Nat → Prop} (hb : h.cells bb = some ((wordsN x m).map (.int .i64))) (hG : G bb) : Ow h [.int .i64 n, .sl bb 0 1 m m] (cB ⟨n, some (wordsN x m)⟩) G := by
  refine .atom rfl ?_
  have := ow_map (h := h) (f := AV.int .i64) (l := wordsN x m) (G := G) (fun _ => rfl) hb wordsN_len hG
  unfold eI
  simpa [wordsN_len] using this

theorem S1.vwB {h : H} {n0 : Nat} {v : AV} {l : List Bool} {B : List Nat} {n : Nat} (hs : S1 h 1 v n (l.map .bool) B) (hb : ∀ b ∈ B, n0 ≤ b) (hnn : v ≠ .nils) : Vw h n0 v (eO (some l)) := by
  have hvw := hs.vw (ts := l.map .bool) hb rfl (one_map fun _ => rfl) (fun i y t hy ht => by
    rw [hy] at ht
    injection ht with ht
    subst ht
    obtain ⟨s, _, rfl⟩ := List.mem_map.1 (List.mem_of_getElem? hy)
    exact .free free_bool)
  rcases hvw with ⟨_, h0, _⟩ | ⟨_, hv⟩
  · exact absurd h0 hnn
  · have : l.length = n := by simpa using hs.1
    subst this
    exact hv
theorem S1.vwB0 {h : H} {n0 n : Nat} {v : AV} {l : List Bool} {B : List Nat} (hs : S1 h 1 v n (l.map .bool) B) (hb : ∀ b ∈ B, n0 ≤ b) : ∃ o, Vw h n0 v (eO o) ∧ lO o = l := by
  by_cases hn : v = .nils
  · subst hn
    rcases hs.2 with ⟨_, h0, _⟩ | ⟨b, hh, _⟩
    · have hl : l = [] := List.eq_nil_of_length_eq_zero (by have := hs.1; simp at this; omega)
      exact ⟨none, .free free_nils, hl.symm⟩
    · cases hh
  · exact ⟨some l, hs.vwB hb hn, rfl⟩

/-- A bit of each value. -/
def bitR (l : List Int) (bit : Nat) : List Bool := l.map fun v => v.toNat.testBit bit
theorem bitR_len {l : List Int} {bit : Nat} : (bitR l bit).length = l.length := by simp [bitR]
theorem bitR_take {l : List Int} {bit i : Nat} (hi : i < l.length) : (bitR l bit).take (i + 1) = (bitR l bit).take i ++ [(l.getD i 0).toNat.testBit bit] := by
  have h1 : l[i]?.toList = [l.getD i 0] := by simp [hi]
  unfold bitR
  rw [← List.map_take, List.take_add_one, h1, List.map_append, List.map_take]
  rfl

def taskOk (seed seg width : Int) (keys : Option (List Str)) (vals : Option (List Int)) : Bool :=
  ((decide (0 ≤ seed) && decide (seed ≤ 9999)) && (okKeys (lS keys) && (decide (1 ≤ seg) && decide (seg ≤ 24)))) && ((decide (1 ≤ width) && decide (width ≤ 8)) && (decide (((lI vals).length : Int) = (lS keys).length) && (lI vals).all fun m => decide (0 ≤ m) && decide (m ≤ ((2 ^ width.toNat : Nat) : Int) - 1)))
theorem pow_le256 {w : Nat} (hw : w ≤ 8) : (1 : Int) ≤ ((2 ^ w : Nat) : Int) ∧ ((2 ^ w : Nat) : Int) ≤ 256 := by
  have h1 := Nat.two_pow_pos w
  have h2 : 2 ^ w ≤ 2 ^ 8 := Nat.pow_le_pow_right (by decide) hw
  have h3 : (2 : Nat) ^ 8 = 256 := rfl
  rw [h3] at h2
  exact ⟨by omega, by omega⟩

theorem c_impl_valuesOk_1 (w : Nat) (hw : w ≤ 8) (T : Int) (hT : T = ((2 ^ w : Nat) : Int)) (m : Int) : Fn Tryz.prog 139 [.int .i64 m, .rad [.int .i64 w] 0] (· = .bool (!(decide (0 ≤ m) && decide (m ≤ T - 1)))) := by
  refine Fn.of free_bool fun h => ?_
  refine enter (by kernel_rfl) e139 (by kernel_rfl) rfl fun hok => ?_
  simp only [r139, initEnv_2]
  have hs := shl16 (j := w) (by omega)
  have h4 := pow_le256 hw
  rw [← hT] at hs h4
  clear hT
  (try (simp (disch := first | omega | (simp <;> omega) | fail) only [push_cast, ↓reduceIte, Nat.reduceEqDiff, Nat.reduceAdd, Nat.reduceMul, Nat.reduceSub, Nat.reduceLT, Int.reduceToNat, hs]))
  refine (c_impl_in _ _ _).call ?_
  (try (simp (disch := first | omega | (simp <;> omega) | fail) only [push_cast, ↓reduceIte, Nat.reduceEqDiff, Nat.reduceAdd, Nat.reduceMul, Nat.reduceSub, Nat.reduceLT, Int.reduceToNat]))

theorem c_impl_valuesOk (seed seg width : Int) (keys : Option (List Str)) (vals : Option (List Int)) : Fn Tryz.prog 80 [.int .i64 seed, eS keys, eI vals, .int .i64 seg, .int .i64 width] (· = .bool (taskOk seed seg width keys vals)) := by
  refine Fn.of free_bool fun h => ?_
  unfold taskOk
  obtain ⟨T, hT⟩ : ∃ T : Int, T = ((2 ^ width.toNat : Nat) : Int) := ⟨_, rfl⟩
  rw [← hT]
  refine enter (by kernel_rfl) e80 (by kernel_rfl) rfl fun hok => ?_
  simp only [r80, initEnv_5]
  have hlen := ok_eI (okV_2 hok)
  (try (simp (disch := first | omega | (simp <;> omega) | fail) only [push_cast, ↓reduceIte, Nat.reduceEqDiff, Nat.reduceAdd, Nat.reduceMul, Nat.reduceSub, Nat.reduceLT, Int.reduceToNat]))
  refine (c_impl_isSeed _).call ?_
  cases h0 : (decide (0 ≤ seed) && decide (seed ≤ 9999))
  · (try (simp (disch := first | omega | (simp <;> omega) | fail) only [push_cast, ↓reduceIte, Nat.reduceEqDiff, Nat.reduceAdd, Nat.reduceMul, Nat.reduceSub, Nat.reduceLT, Int.reduceToNat]))
  (try (simp (disch := first | omega | (simp <;> omega) | fail) only [push_cast, ↓reduceIte, Nat.reduceEqDiff, Nat.reduceAdd, Nat.reduceMul, Nat.reduceSub, Nat.reduceLT, Int.reduceToNat]))
  refine (c_impl_AreKeys _).call ?_
  cases h1 : okKeys (lS keys)
  · (try (simp (disch := first | omega | (simp <;> omega) | fail) only [push_cast, ↓reduceIte, Nat.reduceEqDiff, Nat.reduceAdd, Nat.reduceMul, Nat.reduceSub, Nat.reduceLT, Int.reduceToNat]))
  (try (simp (disch := first | omega | (simp <;> omega) | fail) only [push_cast, ↓reduceIte, Nat.reduceEqDiff, Nat.reduceAdd, Nat.reduceMul, Nat.reduceSub, Nat.reduceLT, Int.reduceToNat]))
  refine (c_impl_segmentOk _).call ?_
  cases h1 : (decide (1 ≤ seg) && decide (seg ≤ 24))
  · (try (simp (disch := first | omega | (simp <;> omega) | fail) only [push_cast, ↓reduceIte, Nat.reduceEqDiff, Nat.reduceAdd, Nat.reduceMul, Nat.reduceSub, Nat.reduceLT, Int.reduceToNat]))
  (try (simp (disch := first | omega | (simp <;> omega) | fail) only [push_cast, ↓reduceIte, Nat.reduceEqDiff, Nat.reduceAdd, Nat.reduceMul, Nat.reduceSub, Nat.reduceLT, Int.reduceToNat]))
  refine (c_impl_widthOk _).call ?_
  cases h2 : (decide (1 ≤ width) && decide (width ≤ 8))
  · (try (simp (disch := first | omega | (simp <;> omega) | fail) only [push_cast, ↓reduceIte, Nat.reduceEqDiff, Nat.reduceAdd, Nat.reduceMul, Nat.reduceSub, Nat.reduceLT, Int.reduceToNat]))
  simp only [Bool.and_eq_true, decide_eq_true_eq] at h2
  obtain ⟨w, rfl⟩ : ∃ w : Nat, width = (w : Int) := ⟨width.toNat, by omega⟩
  rw [Int.toNat_natCast] at hT
  have hcf := c_ContainsFunc_int_cap vals 139 h.length [.int .i64 (w : Int)] (fun m => !(decide (0 ≤ m) && decide (m ≤ T - 1))) (fun m => c_impl_valuesOk_1 w (by omega) T hT m) (free_cons_ free_int free_nil_) (h ++ [some (.cells [.int .i64 (w : Int)])]) (by rw [cells_h0]; rfl) hlen
  clear hT
  simp only [Bool.not_not] at hcf
  (try (simp (disch := first | omega | (simp <;> omega) | fail) only [push_cast, ↓reduceIte, Nat.reduceEqDiff, Nat.reduceAdd, Nat.reduceMul, Nat.reduceSub, Nat.reduceLT, Int.reduceToNat]))
  cases h3 : decide (((lI vals).length : Int) = (lS keys).length)
  · (try (simp (disch := first | omega | (simp <;> omega) | fail) only [push_cast, ↓reduceIte, Nat.reduceEqDiff, Nat.reduceAdd, Nat.reduceMul, Nat.reduceSub, Nat.reduceLT, Int.reduceToNat]))
  (try (simp (disch := first | omega | (simp <;> omega) | fail) only [push_cast, ↓reduceIte, Nat.reduceEqDiff, Nat.reduceAdd, Nat.reduceMul, Nat.reduceSub, Nat.reduceLT, Int.reduceToNat]))
  refine hcf.mono (fun x h2 hx => ?_) (fun _ _ h => h.elim)
  obtain ⟨rfl, rfl⟩ := hx
  (try (simp (disch := first | omega | (simp <;> omega) | fail) only [push_cast, ↓reduceIte, Nat.reduceEqDiff, Nat.reduceAdd, Nat.reduceMul, Nat.reduceSub, Nat.reduceLT, Int.reduceToNat]))

theorem c_spec_reWidth (n : Int) : Fn Tryz.prog 125 [.int .i64 n] (· = .bool (decide (1 ≤ n) && decide (n ≤ 8))) := by
  refine Fn.of free_bool fun h => ?_
  refine enter (by kernel_rfl) e125 (by kernel_rfl) rfl fun hok => ?_
  simp only [r125, initEnv_1]
  (try (simp (disch := first | omega | (simp <;> omega) | fail) only [push_cast, ↓reduceIte, Nat.reduceEqDiff, Nat.reduceAdd, Nat.reduceMul, Nat.reduceSub, Nat.reduceLT, Int.reduceToNat]))
  refine (c_spec_l1In _ _ _).call ?_
  (try (simp (disch := first | omega | (simp <;> omega) | fail) only [push_cast, ↓reduceIte, Nat.reduceEqDiff, Nat.reduceAdd, Nat.reduceMul, Nat.reduceSub, Nat.reduceLT, Int.reduceToNat]))

theorem c_spec_reTop (w : Nat) (hw : w < 16) (T : Int) (hT : T = ((2 ^ w : Nat) : Int)) : Fn Tryz.prog 58 [.int .i64 w] (· = .int .i64 T) := by
  refine Fn.of free_int fun h => ?_
  refine enter (by kernel_rfl) e58 (by kernel_rfl) rfl fun hok => ?_
  simp only [r58, initEnv_1]
  have hs := shl16 hw
  rw [← hT] at hs
  (try (simp (disch := first | omega | (simp <;> omega) | fail) only [push_cast, ↓reduceIte, Nat.reduceEqDiff, Nat.reduceAdd, Nat.reduceMul, Nat.reduceSub, Nat.reduceLT, Int.reduceToNat, hs]))

set_option maxHeartbeats 2000000 in
theorem c_spec_reSystem (n m : Nat) (oE : Option (List (List Int))) (o : Option (List Bool)) (R : List Bool) (ho : lO o = R) (hn1 : 1 ≤ n) (hn2 : n ≤ 72) (hm : (((n : Int) + 15) / 16) = (m : Int)) (hE : (lIS oE).length ≤ 40) (hR : R.length ≤ 40) (hl : ∀ e ∈ lIS oE, e.length ≤ 1000) (he : ∀ e ∈ lIS oE, ∀ p ∈ e, 0 ≤ p ∧ p < (n : Int)) : Fn Tryz.prog 122 [eHy n oE, eO o] (· = eSy (sysT n m (lIS oE) R)) := by
  refine Fn.froze_ fun h => ?_
  unfold eHy
  refine enter (by kernel_rfl) e122 (by kernel_rfl) rfl fun hok => ?_
  simp only [r122, initEnv_2]
  generalize hD : RCode.dreg (.fl ⟨some 11, _, _⟩ _) = D
  (try (simp (disch := first | omega | (simp <;> omega) | fail) only [push_cast, ↓reduceIte, Nat.reduceEqDiff, Nat.reduceAdd, Nat.reduceMul, Nat.reduceSub, Nat.reduceLT, Int.reduceToNat]))
  refine T_cut (fun e h1 => ∃ b5 bR, Pins e [(2, .adr h.length 0), (4, .adr (h.length + 1) 0), (5, .adr b5 0)] ∧ h1.cells h.length = some [.int .i64 n, eIS oE] ∧ h1.cells (h.length + 1) = some [.int .i64 0, .nils, .nils] ∧ h1.cells b5 = some [.int .i64 n, .nils, .sl bR 0 1 R.length R.length] ∧ h1.cells bR = some (R.map .bool) ∧ h.length + 2 ≤ b5 ∧ h.length + 2 ≤ bR ∧ bR ≠ b5) ?_ ?_
  · rw [← hD]
    have hfl : ∀ b k, fillA [AV.int .i64 0, .nils, .nils] [(0, 1, .int .i64 (n : Int)), (2, 1, .sl b 0 1 k k)] = some [.int .i64 n, .nils, .sl b 0 1 k k] := fun b k => rfl
    by_cases h0 : R = []
    · subst h0
      have h0' : o = none ∨ o = some [] := by
        cases o with
        | none => exact .inl rfl
        | some l => exact .inr (by rw [show l = [] from ho])
      rcases h0' with rfl | rfl
      all_goals
        (try (simp (disch := first | omega | (simp <;> omega) | fail) only [push_cast, ↓reduceIte, Nat.reduceEqDiff, Nat.reduceAdd, Nat.reduceMul, Nat.reduceSub, Nat.reduceLT, Int.reduceToNat, hfl, eO, reads, List.mem_cons, List.mem_append, List.not_mem_nil, nat_ff, or_self, or_false, false_or, not_false_eq_true]))
        repeat' (with_reducible refine And.intro ?_ ?_)
        all_goals (try exact ⟨_, _, rfl, by rw [cells_hk]; rfl, by rw [cells_hk]; rfl, by omega, by omega, by omega⟩)
    · obtain ⟨l, rfl⟩ : ∃ l, o = some l := by
        cases o with
        | none => exact absurd ho.symm h0
        | some l => exact ⟨l, rfl⟩
      have hlR : l = R := ho
      subst hlR
      have hl0 : l.length ≠ 0 := fun h5 => h0 (List.eq_nil_of_length_eq_zero h5)
      have hlst : (List.take 0 (List.drop 0 ([] : List AV)) ++ List.take l.length (List.map AV.bool l)) = l.map .bool := by simp [List.take_of_length_le]
      (try (simp (disch := first | omega | (simp <;> omega) | fail) only [push_cast, ↓reduceIte, Nat.reduceEqDiff, Nat.reduceAdd, Nat.reduceMul, Nat.reduceSub, Nat.reduceLT, Int.reduceToNat, hfl, eO, reads, List.mem_cons, List.mem_append, List.not_mem_nil, nat_ff, or_self, or_false, false_or, not_false_eq_true]))
      repeat' (with_reducible refine And.intro ?_ ?_)
      all_goals (try rw [hlst])
      all_goals (try exact ⟨_, _, rfl, by rw [cells_hk]; rfl, by rw [cells_hk]; rfl, by omega, by omega, by omega⟩)
  rintro e h1 ⟨b5, bR, hp, c1, c2, c3, c4, g1, g2, g3⟩
  refine K_pins hp fun e => ?_
  have l3 := cells_lt c3
  have l4 := cells_lt c4
  clear hp hD
  (try (simp (disch := first | omega | (simp <;> omega) | fail) only [push_cast, ↓reduceIte, Nat.reduceEqDiff, Nat.reduceAdd, Nat.reduceMul, Nat.reduceSub, Nat.reduceLT, Int.reduceToNat, c1]))
  refine T_for (lIS oE).length (fun i e h' => Pins e [(2, .adr h.length 0), (4, .adr (h.length + 1) 0), (5, .adr b5 0), (18, eIS oE), (19, .int .i64 (lIS oE).length), (20, .int .i64 i)] ∧ TsI h h' n m h1.length b5 i (.sl bR 0 1 R.length R.length) (lIS oE) [.int .i64 n, eIS oE] ∧ h'.cells bR = some (R.map .bool)) ?_ ?_
  · (try (simp (disch := first | omega | (simp <;> omega) | fail) only [push_cast, ↓reduceIte, Nat.reduceEqDiff, Nat.reduceAdd, Nat.reduceMul, Nat.reduceSub, Nat.reduceLT, Int.reduceToNat, c1]))
    all_goals (try exact ⟨⟨_, c1, c2, c3, .inl ⟨rfl, rfl, by simp⟩, fun _ => rfl, g1, l3, Nat.le_refl _⟩, c4⟩)
  rintro i e h' hi ⟨hp, hr, q4⟩
  refine T_pins hp fun e => ?_
  obtain ⟨v, r1, r2, r3, r4, r5, r6, r7, r8⟩ := id hr
  have hone := r4.cell
  (try (simp (disch := first | omega | (simp <;> omega) | fail) only [push_cast, ↓reduceIte, Nat.reduceEqDiff, Nat.reduceAdd, Nat.reduceMul, Nat.reduceSub, Nat.reduceLT, Int.reduceToNat]))
  first | refine goC_split (fun hc => ?_) (fun hc => ?_) | refine cnd_split (fun hc => ?_) (fun hc => ?_)
  · (try (simp only [decide_eq_true_eq, decide_eq_false_iff_not, Bool.not_eq_true', Bool.not_eq_false', Bool.and_eq_true, Bool.or_eq_true, Int.not_lt, Int.not_le] at hc)); (try (simp (disch := first | omega | (simp <;> omega) | fail) only [push_cast, ↓reduceIte, Nat.reduceEqDiff, Nat.reduceAdd, Nat.reduceMul, Nat.reduceSub, Nat.reduceLT, Int.reduceToNat]))
    have hi2 : i < (lIS oE).length := by omega
    have hmem : (lIS oE).getD i [] ∈ lIS oE := by simp [hi2]
    have hie := he _ hmem
    have hle := hl _ hmem
    have hst := fun (h4 : H) (b2 : Nat) a1 hk hl => hr.step (h4 := h4) (b2 := b2) (v := v) hi2 a1 hk hl
    generalize (lIS oE).getD i [] = a at *
    (try (simp (disch := first | omega | (simp <;> omega) | fail) only [push_cast, ↓reduceIte, Nat.reduceEqDiff, Nat.reduceAdd, Nat.reduceMul, Nat.reduceSub, Nat.reduceLT, Int.reduceToNat, r1]))
    refine (c_spec_biNew_own n m (by omega) hm _).mono (fun x h2 hx => ?_) (fun _ _ h => h.elim)
    obtain ⟨bb, rfl, hbb, ⟨p, hp2⟩, hcb⟩ := hx
    have hl2 : h'.length ≤ h2.length := by rw [hp2]; simp
    have hk2 : ∀ c, c < h'.length → h2[c]? = h'[c]? := fun c hc => by rw [hp2]; exact List.getElem?_append_left hc
    have hbl2 := cells_lt hcb
    clear hp2
    have hR0 : RwI h' (h2 ++ [some (.cells [.int .i64 n, .sl bb 0 1 m m])]) n m h2.length bb (edgeN (a.take 0)) := ⟨by simp; omega, fun c hc => (List.getElem?_append_left (by omega)).trans (hk2 c hc), by rw [cells_h0]; rfl, cells_app hcb, hbb, hl2, by omega⟩
    have hla : lI (some a) = a := rfl
    (try (simp (disch := first | omega | (simp <;> omega) | fail) only [push_cast, ↓reduceIte, Nat.reduceEqDiff, Nat.reduceAdd, Nat.reduceMul, Nat.reduceSub, Nat.reduceLT, Int.reduceToNat, hla]))
    refine T_for a.length (fun k e h3 => Pins e [(2, .adr h.length 0), (4, .adr (h.length + 1) 0), (5, .adr b5 0), (8, .adr h2.length 0), (18, eIS oE), (19, .int .i64 (lIS oE).length), (20, .int .i64 i), (27, eI (some a)), (28, .int .i64 a.length), (29, .int .i64 k)] ∧ RwI h' h3 n m h2.length bb (edgeN (a.take k))) ?_ ?_
    · (try (simp (disch := first | omega | (simp <;> omega) | fail) only [push_cast, ↓reduceIte, Nat.reduceEqDiff, Nat.reduceAdd, Nat.reduceMul, Nat.reduceSub, Nat.reduceLT, Int.reduceToNat]))
      all_goals (try exact hR0)
    clear hR0
    rintro k e h3 hk ⟨hp3, hw⟩
    refine T_pins hp3 fun e => ?_
    obtain ⟨w1, w2, w3, w4, w5, w6, w7⟩ := id hw
    (try (simp (disch := first | omega | (simp <;> omega) | fail) only [push_cast, ↓reduceIte, Nat.reduceEqDiff, Nat.reduceAdd, Nat.reduceMul, Nat.reduceSub, Nat.reduceLT, Int.reduceToNat]))
    first | refine goC_split (fun hd => ?_) (fun hd => ?_) | refine cnd_split (fun hd => ?_) (fun hd => ?_)
    · (try (simp only [decide_eq_true_eq, decide_eq_false_iff_not, Bool.not_eq_true', Bool.not_eq_false', Bool.and_eq_true, Bool.or_eq_true, Int.not_lt, Int.not_le] at hd)); (try (simp (disch := first | omega | (simp <;> omega) | fail) only [push_cast, ↓reduceIte, Nat.reduceEqDiff, Nat.reduceAdd, Nat.reduceMul, Nat.reduceSub, Nat.reduceLT, Int.reduceToNat]))
      have hk2 : k < a.length := by omega
      have hk3 : k < (lI (some a)).length := hk2
      have hpm := hie (a.getD k 0) (by simp [hk2])
      have het := edgeN_take hk2
      obtain ⟨q, hq⟩ : ∃ q : Nat, a.getD k 0 = (q : Int) := ⟨(a.getD k 0).toNat, by omega⟩
      rw [hq, Int.toNat_natCast] at het
      rw [hq] at hpm
      (try (simp (disch := first | omega | (simp <;> omega) | fail) only [push_cast, ↓reduceIte, Nat.reduceEqDiff, Nat.reduceAdd, Nat.reduceMul, Nat.reduceSub, Nat.reduceLT, Int.reduceToNat, hla, hq, w3]))
      refine (c_spec_biSet n bb m _ q _ w4 (by omega) (by omega)).mono (fun y h4 hy => ?_) (fun b' _ hb' => Or.inr (by omega))
      obtain ⟨y1, y2, y3⟩ := hy
      rw [← het] at y3
      have hfin := hw.put y1 y2 y3
      (try (simp (disch := first | omega | (simp <;> omega) | fail) only [push_cast, ↓reduceIte, Nat.reduceEqDiff, Nat.reduceAdd, Nat.reduceMul, Nat.reduceSub, Nat.reduceLT, Int.reduceToNat]))
      all_goals (try exact hfin)
    · (try (simp only [decide_eq_true_eq, decide_eq_false_iff_not, Bool.not_eq_true', Bool.not_eq_false', Bool.and_eq_true, Bool.or_eq_true, Int.not_lt, Int.not_le] at hd)); (try (simp (disch := first | omega | (simp <;> omega) | fail) only [push_cast, ↓reduceIte, Nat.reduceEqDiff, Nat.reduceAdd, Nat.reduceMul, Nat.reduceSub, Nat.reduceLT, Int.reduceToNat]))
      have hke : k = a.length := by omega
      subst hke
      rw [List.take_length] at w4
      have s3 : h3.cells b5 = some [.int .i64 n, v, .sl bR 0 1 R.length R.length] := cells_keep (w2 _ (by omega)) r3
      have s3' : ∀ l, H.cells (h3 ++ l) b5 = some [.int .i64 n, v, .sl bR 0 1 R.length R.length] := fun l => cells_app s3
      have hrow : rows [AV.int .i64 0, .nils] 1 = [.int .i64 0, .nils] := rfl
      have hfl2 : fillA [.int .i64 0, .nils] [(0, 2, .agg [.int .i64 n, .sl bb 0 1 m m])] = some [.int .i64 n, .sl bb 0 1 m m] := rfl
      (try (simp (disch := first | omega | (simp <;> omega) | fail) only [push_cast, ↓reduceIte, Nat.reduceEqDiff, Nat.reduceAdd, Nat.reduceMul, Nat.reduceSub, Nat.reduceLT, Int.reduceToNat, hrow, hfl2, s3, s3', w3]))
      refine r4.app (by omega) (fun b hb => Or.inr (by omega)) (by simp; omega) (fun c hc => (List.getElem?_append_left (by omega)).trans (w2 c hc)) (new := [.int .i64 n, .sl bb 0 1 m m]) (nt := cB (rowT n m a)) (by_ := 32) (ow_row (cells_app w4) (by omega)) rfl rfl (by omega) fun v2 h4 a1 a2 a3 a4 => ?_
      obtain ⟨b2, rfl⟩ := a1.sl1
      simp only [List.length_append, List.length_cons, List.length_nil] at a2
      have hk4 : ∀ c, c < h1.length → h4[c]? = h'[c]? := fun c hc => (a3 c hc).trans ((List.getElem?_append_left (by omega)).trans (w2 c (by omega)))
      obtain ⟨f1, f2⟩ := hst _ _ a1 hk4 (by omega)
      rw [r3] at f1
      have f3 : (wr h4 b5 [.int .i64 n, .sl b2 0 2 (i + 1) (i + 1), .sl bR 0 1 R.length R.length]).cells bR = some (R.map .bool) := cells_keep (by unfold wr; rw [List.getElem?_set_ne (Ne.symm g3)]; exact hk4 _ l4) q4
      (try (simp (disch := first | omega | (simp <;> omega) | fail) only [push_cast, ↓reduceIte, Nat.reduceEqDiff, Nat.reduceAdd, Nat.reduceMul, Nat.reduceSub, Nat.reduceLT, Int.reduceToNat, f1]))
      all_goals (try exact ⟨f2, f3⟩)
  · (try (simp only [decide_eq_true_eq, decide_eq_false_iff_not, Bool.not_eq_true', Bool.not_eq_false', Bool.and_eq_true, Bool.or_eq_true, Int.not_lt, Int.not_le] at hc)); (try (simp (disch := first | omega | (simp <;> omega) | fail) only [push_cast, ↓reduceIte, Nat.reduceEqDiff, Nat.reduceAdd, Nat.reduceMul, Nat.reduceSub, Nat.reduceLT, Int.reduceToNat]))
    have hie : i = (lIS oE).length := by omega
    subst hie
    have hw := cells_wr2 (h := h') (b := h.length + 1) (by omega) (cs := [AV.int .i64 (n : Int), v, .sl bR 0 1 R.length R.length])
    have hpm : (h.length ≤ h.length + 1) = True := by simp
    have hwk : ∀ c, c ≠ h.length + 1 → (wr h' (h.length + 1) [AV.int .i64 (n : Int), v, .sl bR 0 1 R.length R.length])[c]? = h'[c]? := fun c hc => by
      unfold wr
      rw [List.getElem?_set_ne (Ne.symm hc)]
    have r4' : OwS (wr h' (h.length + 1) [AV.int .i64 (n : Int), v, .sl bR 0 1 R.length R.length]) h1.length 2 v (lIS oE).length ((((lIS oE).take (lIS oE).length).map (rowT n m)).flatMap cB) := r4.frame2 fun c hc => hwk c (by omega)
    have hvR : Vw (wr h' (h.length + 1) [AV.int .i64 (n : Int), v, .sl bR 0 1 R.length R.length]) h.length (.sl bR 0 1 R.length R.length) (eO (some R)) := vw_all (by omega) (cells_keep (hwk _ (by omega)) q4) (by simp) (one_map fun _ => rfl) (free_map_ fun _ => free_bool)
    have hout := TsI.out (h := h) (n := n) (R := R) (box := []) (b5 := 0) r4' r5 (by omega) hvR
    (try (simp (disch := first | omega | (simp <;> omega) | fail) only [push_cast, ↓reduceIte, Nat.reduceEqDiff, Nat.reduceAdd, Nat.reduceMul, Nat.reduceSub, Nat.reduceLT, Int.reduceToNat, r2, r3, hpm, hw, hone.1, hone.2]))
    all_goals (try exact ⟨_, hout, rfl⟩)

set_option maxHeartbeats 1000000 in
theorem c_spec_rePlane (n m bit : Nat) (oE : Option (List (List Int))) (vals : Option (List Int)) (hn1 : 1 ≤ n) (hn2 : n ≤ 72) (hm : (((n : Int) + 15) / 16) = (m : Int)) (hE : (lIS oE).length ≤ 40) (hl : ∀ e ∈ lIS oE, e.length ≤ 1000) (he : ∀ e ∈ lIS oE, ∀ p ∈ e, 0 ≤ p ∧ p < (n : Int)) (hvl : (lI vals).length ≤ 40) (hv : ∀ v ∈ lI vals, 0 ≤ v ∧ v ≤ 255) (hb : bit < 8) :
    Fn Tryz.prog 99 [eHy n oE, eI vals, .int .i64 bit] (· = eSy (sysT n m (lIS oE) (bitR (lI vals) bit))) := by
  refine Fn.froze_ fun h => ?_
  unfold eHy
  refine enter (by kernel_rfl) e99 (by kernel_rfl) rfl fun hok => ?_
  simp only [r99, initEnv_3]
  (try (simp (disch := first | omega | (simp <;> omega) | fail) only [push_cast, ↓reduceIte, Nat.reduceEqDiff, Nat.reduceAdd, Nat.reduceMul, Nat.reduceSub, Nat.reduceLT, Int.reduceToNat]))
  refine T_for (lI vals).length (fun i e h' => ∃ v B, Pins e [(2, .int .i64 bit), (3, .adr h.length 0), (6, .adr (h.length + 1) 0), (7, v), (10, eI vals), (11, .int .i64 (lI vals).length), (12, .int .i64 i)] ∧ h'.cells h.length = some [.int .i64 n, eIS oE] ∧ h'.cells (h.length + 1) = some [.int .i64 0, .nils, .nils] ∧ S1 h' 1 v i (((bitR (lI vals) bit).take i).map .bool) B ∧ (∀ b ∈ B, h.length + 2 ≤ b)) ?_ ?_
  · (try (simp (disch := first | omega | (simp <;> omega) | fail) only [push_cast, ↓reduceIte, Nat.reduceEqDiff, Nat.reduceAdd, Nat.reduceMul, Nat.reduceSub, Nat.reduceLT, Int.reduceToNat]))
    all_goals (try exact ⟨_, [], rfl, by simpa using S1.nil, by simp⟩)
  rintro i e h' hi ⟨v, B, hp, q1, q2, q3, q4⟩
  refine T_pins hp fun e => ?_
  have hl1 := cells_lt q2
  (try (simp (disch := first | omega | (simp <;> omega) | fail) only [push_cast, ↓reduceIte, Nat.reduceEqDiff, Nat.reduceAdd, Nat.reduceMul, Nat.reduceSub, Nat.reduceLT, Int.reduceToNat]))
  first | refine goC_split (fun hc => ?_) (fun hc => ?_) | refine cnd_split (fun hc => ?_) (fun hc => ?_)
  · (try (simp only [decide_eq_true_eq, decide_eq_false_iff_not, Bool.not_eq_true', Bool.not_eq_false', Bool.and_eq_true, Bool.or_eq_true, Int.not_lt, Int.not_le] at hc)); (try (simp (disch := first | omega | (simp <;> omega) | fail) only [push_cast, ↓reduceIte, Nat.reduceEqDiff, Nat.reduceAdd, Nat.reduceMul, Nat.reduceSub, Nat.reduceLT, Int.reduceToNat]))
    have hi2 : i < (lI vals).length := by omega
    have htk := bitR_take (bit := bit) hi2
    have hvi := hv ((lI vals).getD i 0) (by simp [hi2])
    obtain ⟨x, hx⟩ : ∃ x : Nat, (lI vals).getD i 0 = (x : Int) := ⟨((lI vals).getD i 0).toNat, by omega⟩
    rw [hx] at hvi
    rw [hx, Int.toNat_natCast] at htk
    have hat := at_bit (x := x) (j := bit) (by omega) (by omega)
    obtain ⟨q, hq⟩ : ∃ q, q = x.testBit bit := ⟨_, rfl⟩
    rw [← hq] at hat htk
    clear hq
    cases q
    all_goals
      (try (simp (disch := first | omega | (simp <;> omega) | fail) only [push_cast, ↓reduceIte, Nat.reduceEqDiff, Nat.reduceAdd, Nat.reduceMul, Nat.reduceSub, Nat.reduceLT, Int.reduceToNat, hx, hat]))
      refine (q3.frame (h' := h' ++ _) fun c hc => List.getElem?_append_left (q3.lt c hc)).app0 (new := [.bool _]) (k := 1) (by_ := 1) (fun b hb => Or.inr (by have := q4 b hb; omega)) rfl (by omega) fun v2 h2 B2 a1 a2 a3 a4 a5 => ?_
      simp only [List.length_append, List.length_cons, List.length_nil] at a2 a3 a4
      have a1' : S1 h2 1 v2 (i + 1) (((bitR (lI vals) bit).take (i + 1)).map .bool) B2 := by
        rw [htk]
        simpa using a1
      have q1' : h2.cells h.length = some [.int .i64 n, eIS oE] := cells_keep ((a3 _ (by omega) fun hb => by have := q4 _ hb; omega).trans (List.getElem?_append_left (by omega))) q1
      have q2' : h2.cells (h.length + 1) = some [.int .i64 0, .nils, .nils] := cells_keep ((a3 _ (by omega) fun hb => by have := q4 _ hb; omega).trans (List.getElem?_append_left (by omega))) q2
      have q4' : ∀ b ∈ B2, h.length + 2 ≤ b := fun b hb => by
        rcases a4 b hb with h5 | h5
        · exact q4 b h5
        · omega
      (try (simp (disch := first | omega | (simp <;> omega) | fail) only [push_cast, ↓reduceIte, Nat.reduceEqDiff, Nat.reduceAdd, Nat.reduceMul, Nat.reduceSub, Nat.reduceLT, Int.reduceToNat]))
      all_goals (try exact ⟨_, B2, rfl, q1', q2', a1', q4'⟩)
  · (try (simp only [decide_eq_true_eq, decide_eq_false_iff_not, Bool.not_eq_true', Bool.not_eq_false', Bool.and_eq_true, Bool.or_eq_true, Int.not_lt, Int.not_le] at hc)); (try (simp (disch := first | omega | (simp <;> omega) | fail) only [push_cast, ↓reduceIte, Nat.reduceEqDiff, Nat.reduceAdd, Nat.reduceMul, Nat.reduceSub, Nat.reduceLT, Int.reduceToNat]))
    have hie : i = (lI vals).length := by omega
    subst hie
    rw [List.take_of_length_le (by rw [bitR_len]; omega)] at q3
    (try (simp (disch := first | omega | (simp <;> omega) | fail) only [push_cast, ↓reduceIte, Nat.reduceEqDiff, Nat.reduceAdd, Nat.reduceMul, Nat.reduceSub, Nat.reduceLT, Int.reduceToNat, q1]))
    obtain ⟨o, ho1, ho2⟩ := (q3.frame (h' := filt (fun b => decide (h.length + 2 ≤ b)) h') fun b hb => filt_t (by simpa using q4 b hb)).vwB0 (n0 := 0) (fun _ _ => Nat.zero_le _)
    refine Call.sink (fun b => decide (h.length + 2 ≤ b)) (ts := [eHy n oE, eO o]) rfl (fun k x t hx ht => ?_) (fun b _ hb => Or.inr (by have := of_decide_eq_true hb; omega)) ?_
    · rcases k with _ | _ | k
      · simp at hx ht
        exact .inl (hx.symm.trans ht)
      · simp at hx ht
        subst hx ht
        exact .inr ho1
      · simp at hx
    refine (c_spec_reSystem n m oE o _ ho2 hn1 hn2 hm hE (by rw [bitR_len]; exact hvl) hl he).call ?_
    generalize sysT n m (lIS oE) (bitR (lI vals) bit) = sy
    have g1 : H.cells (filt (fun b => !decide (h.length + 2 ≤ b)) h') (h.length + 1) = some [.int .i64 0, .nils, .nils] := cells_keep (filt_t (by simp)) q2
    have g2 : h.length + 1 < (filt (fun b => !decide (h.length + 2 ≤ b)) h').length := by rw [filt_len]; exact hl1
    generalize filt (fun b => !decide (h.length + 2 ≤ b)) h' = g at *
    have hw := cells_wr2 g2 (cs := [AV.int .i64 sy.size, eBS sy.rows, eO sy.right])
    have hpm : (h.length ≤ h.length + 1) = True := by simp
    (try (simp (disch := first | omega | (simp <;> omega) | fail) only [push_cast, ↓reduceIte, Nat.reduceEqDiff, Nat.reduceAdd, Nat.reduceMul, Nat.reduceSub, Nat.reduceLT, Int.reduceToNat, g1, hpm, hw]))
    all_goals (try exact ⟨_, .free free_eSy, rfl⟩)

set_option maxHeartbeats 2000000 in
theorem c_impl_systemOf (n m : Nat) (oE : Option (List (List Int))) (R : List Bool) (hn1 : 1 ≤ n) (hn2 : n ≤ 72) (hm : (((n : Int) + 15) / 16) = (m : Int)) (hE : (lIS oE).length ≤ 40) (hR : R.length ≤ 40) (he : ∀ e ∈ lIS oE, ∀ p ∈ e, 0 ≤ p ∧ p < (n : Int)) : Fn Tryz.prog 101 [eHy n oE, eO (some R)] (· = eSy (sysT n m (lIS oE) R)) := by
  refine Fn.froze_ fun h => ?_
  unfold eHy
  refine enter (by kernel_rfl) e101 (by kernel_rfl) rfl fun hok => ?_
  simp only [r101, initEnv_2]
  generalize hD : RCode.dreg (.fl ⟨some 8, _, _⟩ _) = D
  generalize hD2 : RCode.dreg (.fl ⟨some 20, _, _⟩ _) = D2
  (try (simp (disch := first | omega | (simp <;> omega) | fail) only [push_cast, ↓reduceIte, Nat.reduceEqDiff, Nat.reduceAdd, Nat.reduceMul, Nat.reduceSub, Nat.reduceLT, Int.reduceToNat]))
  refine T_cut (fun e h1 => Pins e [(2, .adr h.length 0), (4, .adr (h.length + 1) 0), (5, .adr (h.length + 2) 0)] ∧ h1 = h ++ [some (.cells [.int .i64 n, eIS oE]), some (.cells [.int .i64 0, .nils, .nils]), some (.cells [.int .i64 n, .nils, eO (some R)])]) ?_ ?_
  · rw [← hD]
    have hfl : fillA [AV.int .i64 0, .nils, .nils] [(0, 1, .int .i64 (n : Int)), (2, 1, eO (some R))] = some [.int .i64 n, .nils, eO (some R)] := rfl
    (try (simp (disch := first | omega | (simp <;> omega) | fail) only [push_cast, ↓reduceIte, Nat.reduceEqDiff, Nat.reduceAdd, Nat.reduceMul, Nat.reduceSub, Nat.reduceLT, Int.reduceToNat, reads, List.mem_cons, List.mem_append, List.not_mem_nil, nat_ff, or_self, or_false, false_or, not_false_eq_true]))
    repeat' (with_reducible refine And.intro ?_ ?_)
    all_goals
      refine (c_Clone_bools R (by omega)).call ?_
      (try (simp (disch := first | omega | (simp <;> omega) | fail) only [push_cast, ↓reduceIte, Nat.reduceEqDiff, Nat.reduceAdd, Nat.reduceMul, Nat.reduceSub, Nat.reduceLT, Int.reduceToNat, hfl, one_eO, reads, List.mem_cons, List.mem_append, List.not_mem_nil, nat_ff, or_self, or_false, false_or, not_false_eq_true]))
    all_goals (try rfl)
  rintro e h1 ⟨hp, rfl⟩
  refine K_pins hp fun e => ?_
  (try (simp (disch := first | omega | (simp <;> omega) | fail) only [push_cast, ↓reduceIte, Nat.reduceEqDiff, Nat.reduceAdd, Nat.reduceMul, Nat.reduceSub, Nat.reduceLT, Int.reduceToNat]))
  refine T_for (lIS oE).length (fun i e h' => Pins e [(2, .adr h.length 0), (4, .adr (h.length + 1) 0), (5, .adr (h.length + 2) 0), (14, eIS oE), (15, .int .i64 (lIS oE).length), (16, .int .i64 i)] ∧ TsI h h' n m (h.length + 3) (h.length + 2) i (eO (some R)) (lIS oE) [.int .i64 n, eIS oE]) ?_ ?_
  · (try (simp (disch := first | omega | (simp <;> omega) | fail) only [push_cast, ↓reduceIte, Nat.reduceEqDiff, Nat.reduceAdd, Nat.reduceMul, Nat.reduceSub, Nat.reduceLT, Int.reduceToNat]))
    all_goals (try exact ⟨_, by rw [cells_h0]; rfl, by rw [cells_hk]; rfl, by rw [cells_hk]; rfl, .inl ⟨rfl, rfl, by simp⟩, fun _ => rfl, by omega, by omega, by simp⟩)
  rintro i e h' hi ⟨hp, hr⟩
  refine T_pins hp fun e => ?_
  obtain ⟨v, r1, r2, r3, r4, r5, r6, r7, r8⟩ := id hr
  have hone := r4.cell
  (try (simp (disch := first | omega | (simp <;> omega) | fail) only [push_cast, ↓reduceIte, Nat.reduceEqDiff, Nat.reduceAdd, Nat.reduceMul, Nat.reduceSub, Nat.reduceLT, Int.reduceToNat]))
  first | refine goC_split (fun hc => ?_) (fun hc => ?_) | refine cnd_split (fun hc => ?_) (fun hc => ?_)
  · (try (simp only [decide_eq_true_eq, decide_eq_false_iff_not, Bool.not_eq_true', Bool.not_eq_false', Bool.and_eq_true, Bool.or_eq_true, Int.not_lt, Int.not_le] at hc)); (try (simp (disch := first | omega | (simp <;> omega) | fail) only [push_cast, ↓reduceIte, Nat.reduceEqDiff, Nat.reduceAdd, Nat.reduceMul, Nat.reduceSub, Nat.reduceLT, Int.reduceToNat]))
    have hi2 : i < (lIS oE).length := by omega
    have hmem : (lIS oE).getD i [] ∈ lIS oE := by simp [hi2]
    have hie := he _ hmem
    have hst := fun (h4 : H) (b2 : Nat) a1 hk hl => hr.step (h4 := h4) (b2 := b2) (v := v) hi2 a1 hk hl
    generalize (lIS oE).getD i [] = a at *
    have hme := mkN_edge hie
    have r1' : ∀ l, H.cells (h' ++ l) h.length = some [.int .i64 n, eIS oE] := fun l => cells_app r1
    have r3' : ∀ l, H.cells (h' ++ l) (h.length + 2) = some [.int .i64 n, v, eO (some R)] := fun l => cells_app r3
    have hmd := c_impl_madeBits n m 153 h'.length [eI (some a)] (fun j => decide ((j : Int) ∈ a)) (by omega) hm (fun j => c_impl_systemOf_1 a j) (free_cons_ free_eI free_nil_) (h' ++ [some (.cells [eI (some a)])]) (by rw [cells_h0]; rfl)
    rw [hme] at hmd
    (try (simp (disch := first | omega | (simp <;> omega) | fail) only [push_cast, ↓reduceIte, Nat.reduceEqDiff, Nat.reduceAdd, Nat.reduceMul, Nat.reduceSub, Nat.reduceLT, Int.reduceToNat, r1', r3']))
    refine T_cut (fun e h2 => Pins e [(2, .adr h.length 0), (4, .adr (h.length + 1) 0), (5, .adr (h.length + 2) 0), (14, eIS oE), (15, .int .i64 (lIS oE).length), (16, .int .i64 i)] ∧ TsI h h2 n m (h.length + 3) (h.length + 2) (i + 1) (eO (some R)) (lIS oE) [.int .i64 n, eIS oE]) ?_ ?_
    · rw [← hD2]
      (try (simp (disch := first | omega | (simp <;> omega) | fail) only [push_cast, ↓reduceIte, Nat.reduceEqDiff, Nat.reduceAdd, Nat.reduceMul, Nat.reduceSub, Nat.reduceLT, Int.reduceToNat, r1', r3', reads, List.mem_cons, List.mem_append, List.not_mem_nil, nat_ff, or_self, or_false, false_or, not_false_eq_true]))
      repeat' (with_reducible refine And.intro ?_ ?_)
      all_goals
        refine hmd.mono (fun x h2 hx => ?_) (fun _ _ h => h.elim)
        obtain ⟨bb, rfl, hbb, hl2, hk2, hcb⟩ := hx
        simp only [List.length_append, List.length_cons, List.length_nil] at hbb hl2 hk2
        have hk3 : ∀ c, c < h'.length → h2[c]? = h'[c]? := fun c hc => (hk2 c (by omega)).trans (List.getElem?_append_left hc)
        have s3 : h2.cells (h.length + 2) = some [.int .i64 n, v, eO (some R)] := cells_keep (hk3 _ (by omega)) r3
        have s3' : ∀ l, H.cells (h2 ++ l) (h.length + 2) = some [.int .i64 n, v, eO (some R)] := fun l => cells_app s3
        have hrow : rows [AV.int .i64 0, .nils] 1 = [.int .i64 0, .nils] := rfl
        have hfl2 : fillA [.int .i64 0, .nils] [(0, 2, .agg [.int .i64 n, .sl bb 0 1 m m])] = some [.int .i64 n, .sl bb 0 1 m m] := rfl
        (try (simp (disch := first | omega | (simp <;> omega) | fail) only [push_cast, ↓reduceIte, Nat.reduceEqDiff, Nat.reduceAdd, Nat.reduceMul, Nat.reduceSub, Nat.reduceLT, Int.reduceToNat, hrow, hfl2, s3, s3', reads, List.mem_cons, List.mem_append, List.not_mem_nil, nat_ff, or_self, or_false, false_or, not_false_eq_true]))
        repeat' (with_reducible refine And.intro ?_ ?_)
        all_goals
          refine r4.app (by omega) (fun b hb => Or.inr (by omega)) (by simp; omega) (fun c hc => (List.getElem?_append_left (by omega)).trans (hk3 c hc)) (new := [.int .i64 n, .sl bb 0 1 m m]) (nt := cB (rowT n m a)) (by_ := 32) (ow_row (cells_app hcb) (by omega)) rfl rfl (by omega) fun v2 h4 a1 a2 a3 a4 => ?_
          obtain ⟨b2, rfl⟩ := a1.sl1
          simp only [List.length_append, List.length_cons, List.length_nil] at a2
          obtain ⟨f1, f2⟩ := hst _ _ a1 (fun c hc => (a3 c hc).trans ((List.getElem?_append_left (by omega)).trans (hk3 c (by omega)))) (by omega)
          rw [r3] at f1
          (try (simp (disch := first | omega | (simp <;> omega) | fail) only [push_cast, ↓reduceIte, Nat.reduceEqDiff, Nat.reduceAdd, Nat.reduceMul, Nat.reduceSub, Nat.reduceLT, Int.reduceToNat, f1, one_eO, cellsOf_eO, reads, List.mem_cons, List.mem_append, List.not_mem_nil, nat_ff, or_self, or_false, false_or, not_false_eq_true]))
          all_goals (try exact f2)
    rintro e h2 ⟨hp2, hr2⟩
    refine K_pins hp2 fun e => ?_
    (try (simp (disch := first | omega | (simp <;> omega) | fail) only [push_cast, ↓reduceIte, Nat.reduceEqDiff, Nat.reduceAdd, Nat.reduceMul, Nat.reduceSub, Nat.reduceLT, Int.reduceToNat]))
    all_goals (try exact hr2)
  · (try (simp only [decide_eq_true_eq, decide_eq_false_iff_not, Bool.not_eq_true', Bool.not_eq_false', Bool.and_eq_true, Bool.or_eq_true, Int.not_lt, Int.not_le] at hc)); (try (simp (disch := first | omega | (simp <;> omega) | fail) only [push_cast, ↓reduceIte, Nat.reduceEqDiff, Nat.reduceAdd, Nat.reduceMul, Nat.reduceSub, Nat.reduceLT, Int.reduceToNat]))
    have hie : i = (lIS oE).length := by omega
    subst hie
    have hw := cells_wr2 (h := h') (b := h.length + 1) (by omega) (cs := [AV.int .i64 (n : Int), v, eO (some R)])
    have hpm : (h.length ≤ h.length + 1) = True := by simp
    have r4' : OwS (wr h' (h.length + 1) [AV.int .i64 (n : Int), v, eO (some R)]) (h.length + 3) 2 v (lIS oE).length ((((lIS oE).take (lIS oE).length).map (rowT n m)).flatMap cB) := r4.frame2 fun c hc => by
      unfold wr
      rw [List.getElem?_set_ne (by omega)]
    have hout := TsI.out (h := h) (n := n) (R := R) (box := []) (b5 := 0) r4' r5 (by omega) (.free free_eO)
    (try (simp (disch := first | omega | (simp <;> omega) | fail) only [push_cast, ↓reduceIte, Nat.reduceEqDiff, Nat.reduceAdd, Nat.reduceMul, Nat.reduceSub, Nat.reduceLT, Int.reduceToNat, r2, r3, hpm, hw, hone.1, hone.2]))
    all_goals (try exact ⟨_, hout, rfl⟩)

set_option maxHeartbeats 1000000 in
theorem c_impl_bitSystem (n m bit : Nat) (oE : Option (List (List Int))) (vals : Option (List Int)) (hn1 : 1 ≤ n) (hn2 : n ≤ 72) (hm : (((n : Int) + 15) / 16) = (m : Int)) (hE : (lIS oE).length ≤ 40) (he : ∀ e ∈ lIS oE, ∀ p ∈ e, 0 ≤ p ∧ p < (n : Int)) (hvl : (lI vals).length ≤ 40) (hv : ∀ v ∈ lI vals, 0 ≤ v ∧ v ≤ 255) (hb : bit < 8) :
    Fn Tryz.prog 88 [eHy n oE, eI vals, .int .i64 bit] (· = eSy (sysT n m (lIS oE) (bitR (lI vals) bit))) := by
  refine Fn.froze_ fun h => ?_
  unfold eHy
  refine enter (by kernel_rfl) e88 (by kernel_rfl) rfl fun hok => ?_
  simp only [r88, initEnv_3]
  (try (simp (disch := first | omega | (simp <;> omega) | fail) only [push_cast, ↓reduceIte, Nat.reduceEqDiff, Nat.reduceAdd, Nat.reduceMul, Nat.reduceSub, Nat.reduceLT, Int.reduceToNat]))
  refine T_for (lI vals).length (fun i e h' => ∃ v B, Pins e [(2, .int .i64 bit), (3, .adr h.length 0), (6, .adr (h.length + 1) 0), (7, v), (11, eI vals), (12, .int .i64 (lI vals).length), (13, .int .i64 i)] ∧ h'.cells h.length = some [.int .i64 n, eIS oE] ∧ h'.cells (h.length + 1) = some [.int .i64 0, .nils, .nils] ∧ S1 h' 1 v i (((bitR (lI vals) bit).take i).map .bool) B ∧ (∀ b ∈ B, h.length + 2 ≤ b) ∧ v ≠ .nils) ?_ ?_
  · (try (simp (disch := first | omega | (simp <;> omega) | fail) only [push_cast, ↓reduceIte, Nat.reduceEqDiff, Nat.reduceAdd, Nat.reduceMul, Nat.reduceSub, Nat.reduceLT, Int.reduceToNat]))
    all_goals (try exact ⟨_, [h.length + 2], rfl, ⟨by simp, .inr ⟨h.length + 2, rfl, rfl, by rw [cells_hk]; rfl⟩⟩, by simp, by simp⟩)
  rintro i e h' hi ⟨v, B, hp, q1, q2, q3, q4, q5⟩
  refine T_pins hp fun e => ?_
  have hl1 := cells_lt q2
  (try (simp (disch := first | omega | (simp <;> omega) | fail) only [push_cast, ↓reduceIte, Nat.reduceEqDiff, Nat.reduceAdd, Nat.reduceMul, Nat.reduceSub, Nat.reduceLT, Int.reduceToNat]))
  first | refine goC_split (fun hc => ?_) (fun hc => ?_) | refine cnd_split (fun hc => ?_) (fun hc => ?_)
  · (try (simp only [decide_eq_true_eq, decide_eq_false_iff_not, Bool.not_eq_true', Bool.not_eq_false', Bool.and_eq_true, Bool.or_eq_true, Int.not_lt, Int.not_le] at hc)); (try (simp (disch := first | omega | (simp <;> omega) | fail) only [push_cast, ↓reduceIte, Nat.reduceEqDiff, Nat.reduceAdd, Nat.reduceMul, Nat.reduceSub, Nat.reduceLT, Int.reduceToNat]))
    have hi2 : i < (lI vals).length := by omega
    have htk := bitR_take (bit := bit) hi2
    have hvi := hv ((lI vals).getD i 0) (by simp [hi2])
    obtain ⟨x, hx⟩ : ∃ x : Nat, (lI vals).getD i 0 = (x : Int) := ⟨((lI vals).getD i 0).toNat, by omega⟩
    rw [hx] at hvi
    rw [hx, Int.toNat_natCast] at htk
    have hat := at_bit (x := x) (j := bit) (by omega) (by omega)
    obtain ⟨q, hq⟩ : ∃ q, q = x.testBit bit := ⟨_, rfl⟩
    rw [← hq] at hat htk
    clear hq
    cases q
    all_goals
      (try (simp (disch := first | omega | (simp <;> omega) | fail) only [push_cast, ↓reduceIte, Nat.reduceEqDiff, Nat.reduceAdd, Nat.reduceMul, Nat.reduceSub, Nat.reduceLT, Int.reduceToNat, hx, hat]))
      refine (q3.frame (h' := h' ++ _) fun c hc => List.getElem?_append_left (q3.lt c hc)).app0 (new := [.bool _]) (k := 1) (by_ := 1) (fun b hb => Or.inr (by have := q4 b hb; omega)) rfl (by omega) fun v2 h2 B2 a1 a2 a3 a4 a5 => ?_
      simp only [List.length_append, List.length_cons, List.length_nil] at a2 a3 a4
      have a1' : S1 h2 1 v2 (i + 1) (((bitR (lI vals) bit).take (i + 1)).map .bool) B2 := by
        rw [htk]
        simpa using a1
      have q1' : h2.cells h.length = some [.int .i64 n, eIS oE] := cells_keep ((a3 _ (by omega) fun hb => by have := q4 _ hb; omega).trans (List.getElem?_append_left (by omega))) q1
      have q2' : h2.cells (h.length + 1) = some [.int .i64 0, .nils, .nils] := cells_keep ((a3 _ (by omega) fun hb => by have := q4 _ hb; omega).trans (List.getElem?_append_left (by omega))) q2
      have q4' : ∀ b ∈ B2, h.length + 2 ≤ b := fun b hb => by
        rcases a4 b hb with h5 | h5
        · exact q4 b h5
        · omega
      (try (simp (disch := first | omega | (simp <;> omega) | fail) only [push_cast, ↓reduceIte, Nat.reduceEqDiff, Nat.reduceAdd, Nat.reduceMul, Nat.reduceSub, Nat.reduceLT, Int.reduceToNat]))
      all_goals (try exact ⟨_, B2, rfl, q1', q2', a1', q4', a5 q5⟩)
  · (try (simp only [decide_eq_true_eq, decide_eq_false_iff_not, Bool.not_eq_true', Bool.not_eq_false', Bool.and_eq_true, Bool.or_eq_true, Int.not_lt, Int.not_le] at hc)); (try (simp (disch := first | omega | (simp <;> omega) | fail) only [push_cast, ↓reduceIte, Nat.reduceEqDiff, Nat.reduceAdd, Nat.reduceMul, Nat.reduceSub, Nat.reduceLT, Int.reduceToNat]))
    have hie : i = (lI vals).length := by omega
    subst hie
    rw [List.take_of_length_le (by rw [bitR_len]; omega)] at q3
    (try (simp (disch := first | omega | (simp <;> omega) | fail) only [push_cast, ↓reduceIte, Nat.reduceEqDiff, Nat.reduceAdd, Nat.reduceMul, Nat.reduceSub, Nat.reduceLT, Int.reduceToNat, q1]))
    have ho1 := (q3.frame (h' := filt (fun b => decide (h.length + 2 ≤ b)) h') fun b hb => filt_t (by simpa using q4 b hb)).vwB (n0 := 0) (fun _ _ => Nat.zero_le _) q5
    refine Call.sink (fun b => decide (h.length + 2 ≤ b)) (ts := [eHy n oE, eO (some (bitR (lI vals) bit))]) rfl (fun k x t hx ht => ?_) (fun b _ hb => Or.inr (by have := of_decide_eq_true hb; omega)) ?_
    · rcases k with _ | _ | k
      · simp at hx ht
        exact .inl (hx.symm.trans ht)
      · simp at hx ht
        subst hx ht
        exact .inr ho1
      · simp at hx
    refine (c_impl_systemOf n m oE _ hn1 hn2 hm hE (by rw [bitR_len]; exact hvl) he).call ?_
    generalize sysT n m (lIS oE) (bitR (lI vals) bit) = sy
    have g1 : H.cells (filt (fun b => !decide (h.length + 2 ≤ b)) h') (h.length + 1) = some [.int .i64 0, .nils, .nils] := cells_keep (filt_t (by simp)) q2
    have g2 : h.length + 1 < (filt (fun b => !decide (h.length + 2 ≤ b)) h').length := by rw [filt_len]; exact hl1
    generalize filt (fun b => !decide (h.length + 2 ≤ b)) h' = g at *
    have hw := cells_wr2 g2 (cs := [AV.int .i64 sy.size, eBS sy.rows, eO sy.right])
    have hpm : (h.length ≤ h.length + 1) = True := by simp
    (try (simp (disch := first | omega | (simp <;> omega) | fail) only [push_cast, ↓reduceIte, Nat.reduceEqDiff, Nat.reduceAdd, Nat.reduceMul, Nat.reduceSub, Nat.reduceLT, Int.reduceToNat, g1, hpm, hw]))
    all_goals (try exact ⟨_, .free free_eSy, rfl⟩)

end Go.Proofs.YtjfgmimgmapeeaaGreat.M
