/-
  What the functions return.
-/
import Derived.Test.YtoappkfndnggnaaDoorFv
import Derived.Test.YtoappkfndnggnaaDoorCt
namespace Go.Proofs.YtoappkfndnggnaaDoor.M
open Go Go.RowKit
set_option linter.unusedVariables false
set_option linter.unusedSimpArgs false
set_option maxRecDepth 4000

def zSp : Spa := ⟨0, 0, 0, ⟨0, none⟩, ⟨0, none⟩⟩
/-- What loads of a list of numbers, the limit first. -/
def lsN (ns : List Int) : Option Spa := match ns with
  | lim :: l => if srt l lim then some (spV (l.map Int.toNat) lim.toNat) else none
  | [] => none
def spW : Str := [115, 112, 97, 114, 115, 101]
def lsW (s : Str) : Option (List Str) := if openOk s (beforeT s) = true ∧ (beforeT s).take 7 = [115, 112, 97, 114, 115, 101, 32] then some (splitL 32 ((beforeT s).drop 7)) else none
def lsP (s : Str) : Option Spa := match lsW s with
  | some ws => lsN (ws.map rdN)
  | none => none
def lsSp (s : Str) : Spa := (lsP s).getD zSp
def lsq (s : Str) : Bool := (lsP s).isSome
def lsV (s : Str) : AV := .tup [eSp (lsSp s), .bool (lsq s)]
theorem ls_none {s : Str} (h : lsP s = none) : lsV s = .tup [eSp zSp, .bool false] := by
  unfold lsV lsSp lsq
  rw [h]
  rfl
theorem ls_some {s : Str} {p : Spa} (h : lsP s = some p) : lsV s = .tup [eSp p, .bool true] := by
  unfold lsV lsSp lsq
  rw [h]
  rfl
theorem ls_closed {s : Str} (h : lsW s = none) : lsP s = none := by
  unfold lsP
  rw [h]
theorem srt_nat {l : List Int} {lim : Int} (h : srt l lim = true) : natI (l.map Int.toNat) = l ∧ (∀ i, i < (l.map Int.toNat).length → (l.map Int.toNat).getD i 0 < lim.toNat) ∧ (l.map Int.toNat).length ≤ 60 ∧ 1 ≤ lim.toNat ∧ lim.toNat ≤ 100000 ∧ ((lim.toNat : Nat) : Int) = lim := by
  obtain ⟨s1, s2, s3, s4⟩ := srt_in h
  refine ⟨?_, fun i hi => ?_, by simpa using s1, by omega, by omega, by omega⟩
  · unfold natI
    rw [List.map_map]
    refine (List.map_congr_left fun x hx => ?_).trans (List.map_id l)
    obtain ⟨j, hj, rfl⟩ := List.mem_iff_getElem.1 hx
    have := (s4 j hj).1
    have h5 : l.getD j 0 = l[j] := by simp [hj]
    rw [h5] at this
    simp only [Function.comp, id]
    omega
  · rw [List.length_map] at hi
    have h4 := s4 i hi
    have h5 : (l.map Int.toNat).getD i 0 = (l.getD i 0).toNat := by simp [hi]
    rw [h5]
    omega
/-- What is no number, or too great, spoils the list on both sides. -/
theorem lsN_bad {ns : List Int} {i : Nat} (hi : i < ns.length) (hb : ns.getD i 0 < 0 ∨ 1000000 ≤ ns.getD i 0) : lsN ns = none := by
  cases ns with
  | nil => rfl
  | cons lim l =>
    unfold lsN
    simp only
    refine if_neg fun h => ?_
    obtain ⟨s1, s2, s3, s4⟩ := srt_in h
    cases i with
    | zero =>
      simp at hb
      omega
    | succ i =>
      have := s4 i (by simpa using hi)
      simp at hb this
      omega
theorem lsN_same {ns ms : List Int} (hl : ns.length = ms.length) (h : ∀ i, i < ns.length → ns.getD i 0 = ms.getD i 0 ∨ (1000000 ≤ ns.getD i 0 ∧ ms.getD i 0 < 0)) : lsN ns = lsN ms := by
  by_cases ha : ∀ i, i < ns.length → ns.getD i 0 = ms.getD i 0
  · have : ns = ms := by
      refine List.ext_getElem hl fun i h1 h2 => ?_
      have := ha i h1
      simpa [h1, h2] using this
    rw [this]
  · obtain ⟨i, hi, hne⟩ : ∃ i, i < ns.length ∧ ns.getD i 0 ≠ ms.getD i 0 := Classical.byContradiction fun h5 => ha fun i hi => Classical.byContradiction fun h7 => h5 ⟨i, hi, h7⟩
    rcases h i hi with h5 | ⟨h5, h6⟩
    · exact absurd h5 hne
    · rw [lsN_bad hi (.inr h5), lsN_bad (ns := ms) (i := i) (by omega) (.inl h6)]
/-- What the other program reads. -/
theorem ls_split {s : Str} : (∃ ws, openOk s (beforeT s) = true ∧ splitL 32 (beforeT s) = spW :: ws ∧ ws ≠ [] ∧ lsW s = some ws ∧ ws = splitL 32 ((beforeT s).drop 7)) ∨ (lsW s = none ∧ ¬ (openOk s (beforeT s) = true ∧ (splitL 32 (beforeT s)).getD 0 [] = spW ∧ (splitL 32 (beforeT s)).drop 1 ≠ [])) := by
  cases hk : openOk s (beforeT s)
  · refine .inr ⟨by unfold lsW; rw [hk]; rfl, fun h => by cases h.1⟩
  rcases splitL_hd 32 (beforeT s) with ⟨p, t, h1, h2, h3⟩ | ⟨h1, h2⟩
  · by_cases hp : p = spW
    · subst hp
      have hd : (beforeT s).drop 7 = t := by rw [h1]; rfl
      have ht : (beforeT s).take 7 = [115, 112, 97, 114, 115, 101, 32] := by rw [h1]; rfl
      refine .inl ⟨splitL 32 t, rfl, h3, splitL_ne 32 t, ?_, by rw [hd]⟩
      unfold lsW
      rw [hk, hd]
      simp [ht]
    · refine .inr ⟨?_, fun h => hp ?_⟩
      · unfold lsW
        refine if_neg fun h5 => hp ?_
        obtain ⟨_, h6⟩ := h5
        rw [h1] at h6
        match p, h2, h6 with
        | [], _, h6 => simp at h6
        | [a], h2, h6 => simp at h6
        | [a, b], h2, h6 => simp at h6
        | [a, b, c], h2, h6 => simp at h6
        | [a, b, c, d], h2, h6 => simp at h6
        | [a, b, c, d, e], h2, h6 => simp at h6
        | [a, b, c, d, e, f], h2, h6 =>
          simp at h6
          simp [spW, h6]
        | a :: b :: c :: d :: e :: f :: g :: r, h2, h6 =>
          simp at h6
          exact absurd h6.2.2.2.2.2.2 (h2 g (by simp))
      · have := h.2.1
        rw [h3] at this
        simpa using this
  · refine .inr ⟨?_, fun h => ?_⟩
    · unfold lsW
      refine if_neg fun h5 => ?_
      have : (32 : UInt8) ∈ (beforeT s).take 7 := by rw [h5.2]; simp
      exact h1 32 (List.mem_of_mem_take this) rfl
    · have := h.2.2
      rw [h2] at this
      simp at this
/-- A list of numbers that grows. -/
def LzI (n0 : Nat) (h' : H) (v : AV) (L : List Int) : Prop := n0 ≤ h'.length ∧ ∃ B, S1 h' 1 v L.length (L.map (.int .i64)) B ∧ ∀ k ∈ B, n0 ≤ k
theorem LzI.app {n0 : Nat} {h' : H} {v : AV} {L : List Int} {x : Int} {pm : Nat → Prop} {Q : AV → H → Prop} (hs : LzI n0 h' v L) (hpm : ∀ c, n0 ≤ c → pm c) (hL : L.length ≤ 1000000)
    (hQ : ∀ v' h'', LzI n0 h'' v' (L ++ [x]) → (∀ c, c < n0 → h''[c]? = h'[c]?) → h'.length ≤ h''.length → Q v' h'') : apA pm (h' ++ [some (.cells [.int .i64 x])]) Q 1 8 (some ([.int .i64 x], 1)) v := by
  obtain ⟨hn, B, hs, hB⟩ := hs
  have hs2 := hs.frame (h' := h' ++ [some (.cells [.int .i64 x])]) fun c hc => List.getElem?_append_left (hs.lt c hc)
  refine hs2.app (fun c hc => hpm c (hB c hc)) rfl (by decide) (by omega) fun v' h'' B' q1 q2 q3 q4 => ?_
  simp only [List.length_append, List.length_cons, List.length_nil] at q2 q4
  refine hQ v' h'' ⟨by omega, B', by simpa using q1, fun k hk => ?_⟩ (fun c hc => ?_) (by omega)
  · rcases q4 k hk with h5 | h5
    · exact hB k h5
    · omega
  · rw [q3 c (by simp; omega) (fun hb => by have := hB c hb; omega)]
    exact List.getElem?_append_left (by omega)
theorem LzI.sl {n0 : Nat} {h' : H} {v : AV} {L : List Int} (hs : LzI n0 h' v L) (hne : L ≠ []) : ∃ b, v = .sl b 0 1 L.length L.length ∧ n0 ≤ b ∧ H.cells h' b = some (L.map (.int .i64)) := by
  obtain ⟨_, B, hs, hB⟩ := hs
  rcases hs.2 with ⟨rfl, h0, _⟩ | ⟨b, rfl, hb, hcb⟩
  · exact absurd (List.length_eq_zero_iff.1 h0) hne
  · exact ⟨b, rfl, hB b (by rw [hb]; simp), hcb⟩
theorem vw_tail {g : H} {b n0 : Nat} {x : Int} {l : List Int} (hc : H.cells g b = some ((x :: l).map (.int .i64))) (hb : n0 ≤ b) : Vw g n0 (.sl b 1 1 l.length l.length) (eI (some l)) := by
  refine .sl (cs := (x :: l).map (.int .i64)) (ts := l.map (.int .i64)) hb hc (by simp; omega) (by simp) (one_map fun _ => rfl) fun i y t hy ht => ?_
  rw [List.map_cons, Nat.add_comm, List.getElem?_cons_succ, ht] at hy
  injection hy with hy
  subst hy
  obtain ⟨m, _, rfl⟩ := List.mem_map.1 (List.mem_of_getElem? ht)
  exact .free free_int

theorem rdN_bd (a : Str) : -1 ≤ rdN a ∧ rdN a < 1000000 := by
  by_cases h : 0 ≤ rdN a
  · obtain ⟨n, h1, h2, _⟩ := rd_back (a := a) rfl h
    omega
  · unfold rdN at h ⊢
    split
    · rename_i h5
      rw [if_pos h5] at h
      omega
    · omega
theorem c_spec_LoadSparse (s : Str) : Fn Tryd.prog 29 [.str s] (· = lsV s) := by
  refine Fn.froze fun h => ?_
  refine enter (by kernel_rfl) e29 (by kernel_rfl) rfl fun hok => ?_
  simp only [r29, initEnv_1]
  have hnone : ∀ {hh : H}, lsP s = none → Vw hh h.length (.tup [.agg [.int .i64 0, .int .i64 0, .int .i64 0, .int .i64 0, .nils, .int .i64 0, .nils], .bool false]) (lsV s) := fun h1 => by
    rw [ls_none h1]
    exact .free (free_tup (free_cons_ (free_eSp (s := zSp)) (free_cons_ free_bool free_nil_)))
  have hpm : (h.length ≤ h.length) = True := by simp
  (try (simp (disch := first | omega | (simp <;> omega) | fail) only [push_cast, ↓reduceIte, Nat.reduceEqDiff, Nat.reduceAdd, Nat.reduceMul, Nat.reduceSub, Nat.reduceLT, Int.reduceToNat]))
  refine (c_spec_stOpen s).call ?_
  unfold openV
  cases hk : openOk s (beforeT s)
  · have hl := ls_closed (s := s) (by unfold lsW; rw [hk]; rfl)
    (try (simp (disch := first | omega | (simp <;> omega) | fail) only [push_cast, ↓reduceIte, Nat.reduceEqDiff, Nat.reduceAdd, Nat.reduceMul, Nat.reduceSub, Nat.reduceLT, Int.reduceToNat, hpm]))
    all_goals (try exact hnone hl)
  have h6 := open_len hk
  (try (simp (disch := first | omega | (simp <;> omega) | fail) only [push_cast, ↓reduceIte, Nat.reduceEqDiff, Nat.reduceAdd, Nat.reduceMul, Nat.reduceSub, Nat.reduceLT, Int.reduceToNat]))
  refine (c_spec_trBegins (beforeT s) [115, 112, 97, 114, 115, 101, 32] (by omega) (by simp)).call ?_
  by_cases ht : (beforeT s).take 7 = [115, 112, 97, 114, 115, 101, 32]
  · have hl7 : 7 ≤ (beforeT s).length := by
      have := congrArg List.length ht
      simp at this
      omega
    have hlw : lsW s = some (splitL 32 ((beforeT s).drop 7)) := by unfold lsW; rw [hk]; simp [ht]
    have hlp : lsP s = lsN ((splitL 32 ((beforeT s).drop 7)).map rdN) := by unfold lsP; rw [hlw]
    have hd1 : (decide (([115, 112, 97, 114, 115, 101, 32] : Str).length ≤ (beforeT s).length) && decide ((beforeT s).take ([115, 112, 97, 114, 115, 101, 32] : Str).length = [115, 112, 97, 114, 115, 101, 32])) = true := by simp [hl7, ht]
    have htk : List.take ((beforeT s).length - 7) (List.drop 7 (beforeT s)) = (beforeT s).drop 7 := List.take_of_length_le (by simp)
    have hsp := c_spec_l1Split ((beforeT s).drop 7) (by simp; omega)
    have hnl := splitL_nlen 32 ((beforeT s).drop 7)
    have hne := splitL_ne 32 ((beforeT s).drop 7)
    rw [List.length_drop] at hnl
    rw [hd1]
    (try (simp (disch := first | omega | (simp <;> omega) | fail) only [push_cast, ↓reduceIte, Nat.reduceEqDiff, Nat.reduceAdd, Nat.reduceMul, Nat.reduceSub, Nat.reduceLT, Int.reduceToNat, htk]))
    refine hsp.call ?_
    generalize splitL 32 ((beforeT s).drop 7) = W at *
    have hWl : lS (some W) = W := rfl
    have hWll : (lS (some W)).length = W.length := rfl
    (try (simp (disch := first | omega | (simp <;> omega) | fail) only [push_cast, ↓reduceIte, Nat.reduceEqDiff, Nat.reduceAdd, Nat.reduceMul, Nat.reduceSub, Nat.reduceLT, Int.reduceToNat, hWl]))
    refine T_for W.length (fun i e h' => ∃ v, Pins e [(2, .adr h.length 0), (3, .bool false), (6, v), (24, eS (some W)), (25, .int .i64 W.length), (26, .int .i64 i)] ∧ LzI (h.length + 1) h' v ((W.take i).map rdN) ∧ H.cells h' h.length = some zero7) ?_ ?_
    · refine ⟨.nils, ?_⟩
      (try (simp (disch := first | omega | (simp <;> omega) | fail) only [push_cast, ↓reduceIte, Nat.reduceEqDiff, Nat.reduceAdd, Nat.reduceMul, Nat.reduceSub, Nat.reduceLT, Int.reduceToNat, hWl]))
      all_goals (try exact ⟨⟨by simp, [], S1.nil, by simp⟩, by rw [cells_h0]; rfl⟩)
      all_goals (try exact ⟨⟨by simp, [], S1.nil, by simp⟩, rfl⟩)
    rintro i e h' hi ⟨v, hp, hs, hbx⟩
    refine T_pins hp fun e => ?_
    (try (simp (disch := first | omega | (simp <;> omega) | fail) only [push_cast, ↓reduceIte, Nat.reduceEqDiff, Nat.reduceAdd, Nat.reduceMul, Nat.reduceSub, Nat.reduceLT, Int.reduceToNat]))
    first | refine goC_split (fun hc => ?_) (fun hc => ?_) | refine cnd_split (fun hc => ?_) (fun hc => ?_)
    · (try (simp only [decide_eq_true_eq, decide_eq_false_iff_not, Bool.not_eq_true', Bool.not_eq_false', Bool.and_eq_true, Bool.or_eq_true, Int.not_lt, Int.not_le] at hc)); (try (simp (disch := first | omega | (simp <;> omega) | fail) only [push_cast, ↓reduceIte, Nat.reduceEqDiff, Nat.reduceAdd, Nat.reduceMul, Nat.reduceSub, Nat.reduceLT, Int.reduceToNat]))
      have hi2 : i < W.length := by omega
      have htk : (W.take (i + 1)).map rdN = (W.take i).map rdN ++ [rdN (W.getD i [])] := by
        rw [List.take_add_one, List.map_append]
        simp [hi2]
      have hgw : ((lS (some W)).map AV.str)[i]? = some (.str (W.getD i [])) := get_S hi2
      (try (simp (disch := first | omega | (simp <;> omega) | fail) only [push_cast, ↓reduceIte, Nat.reduceEqDiff, Nat.reduceAdd, Nat.reduceMul, Nat.reduceSub, Nat.reduceLT, Int.reduceToNat, hWl, hgw]))
      refine (c_spec_l1Read (W.getD i [])).call ?_
      (try (simp (disch := first | omega | (simp <;> omega) | fail) only [push_cast, ↓reduceIte, Nat.reduceEqDiff, Nat.reduceAdd, Nat.reduceMul, Nat.reduceSub, Nat.reduceLT, Int.reduceToNat]))
      refine hs.app (fun c hc => Or.inr (by omega)) (by rw [List.length_map, List.length_take]; omega) fun v' h'' q1 q2 q3 => ?_
      rw [← htk] at q1
      have hbx2 := cells_keep (q2 h.length (by omega)) hbx
      (try (simp (disch := first | omega | (simp <;> omega) | fail) only [push_cast, ↓reduceIte, Nat.reduceEqDiff, Nat.reduceAdd, Nat.reduceMul, Nat.reduceSub, Nat.reduceLT, Int.reduceToNat]))
      all_goals (try exact ⟨_, rfl, q1, hbx2⟩)
      all_goals (try exact ⟨_, q1, hbx2⟩)
      all_goals (try exact ⟨q1, hbx2⟩)
    · (try (simp only [decide_eq_true_eq, decide_eq_false_iff_not, Bool.not_eq_true', Bool.not_eq_false', Bool.and_eq_true, Bool.or_eq_true, Int.not_lt, Int.not_le] at hc)); (try (simp (disch := first | omega | (simp <;> omega) | fail) only [push_cast, ↓reduceIte, Nat.reduceEqDiff, Nat.reduceAdd, Nat.reduceMul, Nat.reduceSub, Nat.reduceLT, Int.reduceToNat]))
      have hie : i = W.length := by omega
      subst hie
      rw [List.take_length] at hs
      obtain ⟨x, l, hxl⟩ : ∃ x l, W.map rdN = x :: l := by
        cases W with
        | nil => exact absurd rfl hne
        | cons w W => exact ⟨_, _, rfl⟩
      have hxb : -1 ≤ x ∧ x < 1000000 := by
        have hmem : x ∈ W.map rdN := by rw [hxl]; simp
        obtain ⟨a, _, rfl⟩ := List.mem_map.1 hmem
        exact rdN_bd a
      rw [hxl] at hs hlp
      obtain ⟨b, rfl, hbn, hcb⟩ := hs.sl (by simp)
      have hvt := vw_tail (n0 := 0) hcb (Nat.zero_le _)
      have hl1 : (x :: l).length = l.length + 1 := rfl
      have hsub : l.length + 1 - 1 = l.length := by omega
      have hll : lI (some l) = l := rfl
      have hcb2 : H.cells h' b = some (.int .i64 x :: l.map (.int .i64)) := hcb
      have hlN : lsN (x :: l) = if srt l x then some (spV (l.map Int.toNat) x.toNat) else none := rfl
      rw [hlN] at hlp
      have hllen : l.length + 1 ≤ 10000 := by
        have := congrArg List.length hxl
        simp at this
        omega
      (try (simp (disch := first | omega | (simp <;> omega) | fail) only [push_cast, ↓reduceIte, Nat.reduceEqDiff, Nat.reduceAdd, Nat.reduceMul, Nat.reduceSub, Nat.reduceLT, Int.reduceToNat, hl1, hsub, hcb2]))
      refine (c_spec_spSorted (some l) x (by omega) (by omega)).lendL (.cons hvt (.free free_int .nil)) own_bool ?_
      rw [hll]
      have hw : ∀ cs, H.cells (wr h' h.length cs) h.length = some cs := fun cs => cells_wr2 (cells_lt hbx)
      have hbx2 := hbx
      unfold zero7 at hbx2
      cases hsr : srt l x
      · rw [hsr] at hlp
        (try (simp (disch := first | omega | (simp <;> omega) | fail) only [push_cast, ↓reduceIte, Nat.reduceEqDiff, Nat.reduceAdd, Nat.reduceMul, Nat.reduceSub, Nat.reduceLT, Int.reduceToNat, hbx2, hpm, hw]))
        all_goals (try exact hnone hlp)
      · rw [hsr] at hlp
        have hls := ls_some hlp
        obtain ⟨g1, g2, g3, g4, g5, g6⟩ := srt_nat hsr
        have hspo := c_spec_spOf_o (l.map Int.toNat) x.toNat (some l) g1.symm g3 g4 g5 g2
        rw [g6] at hspo
        (try (simp (disch := first | omega | (simp <;> omega) | fail) only [push_cast, ↓reduceIte, Nat.reduceEqDiff, Nat.reduceAdd, Nat.reduceMul, Nat.reduceSub, Nat.reduceLT, Int.reduceToNat, hl1, hsub, hcb2, reads, List.mem_cons, List.mem_append, List.not_mem_nil, nat_ff, or_self, or_false, false_or, not_false_eq_true]))
        refine hspo.goL (.cons hvt (.free free_int .nil)) fun y t k hR hx how => ?_
        subst hR
        obtain ⟨x5, x7, F5, F7, rfl, p5, p7, u5, u7, _⟩ := ow_sp how
        obtain ⟨c1, c2⟩ := ow_eI p5
        obtain ⟨c3, c4⟩ := ow_eI p7
        have hbk := hx.cells hbx2
        have hwk : ∀ cs, H.cells (wr k h.length cs) h.length = some cs := fun cs => cells_wr2 (cells_lt hbk)
        have hlt := cells_lt hbx
        rw [hls]
        generalize spV (l.map Int.toNat) x.toNat = S at *
        have hfin : ∀ cs, Vw (wr k h.length cs) h.length (.tup [.agg [.int .i64 S.count, .int .i64 S.limit, .int .i64 S.width, .int .i64 S.low.size, x5, .int .i64 S.high.size, x7], .bool true]) (.tup [eSp S, .bool true]) := fun cs => by
          have hv := (how.frame (h' := wr k h.length cs) fun c hc => by
            have := hc.1
            unfold wr
            rw [List.getElem?_set_ne (by omega)]).vw1 (n0 := h.length) fun c hc => by have := hc.1; omega
          refine .tup rfl fun j y t hy ht => ?_
          rcases j with _ | _ | j
          · simp at hy ht
            subst hy ht
            exact hv
          · simp at hy ht
            subst hy ht
            exact .free free_bool
          · simp at hy
        (try (simp (disch := first | omega | (simp <;> omega) | fail) only [push_cast, ↓reduceIte, Nat.reduceEqDiff, Nat.reduceAdd, Nat.reduceMul, Nat.reduceSub, Nat.reduceLT, Int.reduceToNat, hbk, hpm, hwk, c1, c2, c3, c4, reads, List.mem_cons, List.mem_append, List.not_mem_nil, nat_ff, or_self, or_false, false_or, not_false_eq_true]))
        all_goals (try exact hfin _)
  · have hl := ls_closed (s := s) (by unfold lsW; simp [ht])
    have hd1 : (decide (([115, 112, 97, 114, 115, 101, 32] : Str).length ≤ (beforeT s).length) && decide ((beforeT s).take ([115, 112, 97, 114, 115, 101, 32] : Str).length = [115, 112, 97, 114, 115, 101, 32])) = false := by simp [ht]
    rw [hd1]
    (try (simp (disch := first | omega | (simp <;> omega) | fail) only [push_cast, ↓reduceIte, Nat.reduceEqDiff, Nat.reduceAdd, Nat.reduceMul, Nat.reduceSub, Nat.reduceLT, Int.reduceToNat, hpm]))
    all_goals (try exact hnone hl)

theorem c_impl_BuildSparse_o (o : Option (List Int)) (lim : Int) (h0 : -1000000000000 ≤ lim) (h9 : lim ≤ 9223372036854775807) : FnO Tryd.prog 64 [eI o, .int .i64 lim] (· = if srt (lI o) lim then .tup [eSp (spV ((lI o).map Int.toNat) lim.toNat), .bool true] else .tup [eSp zSp, .bool false]) := by
  intro h
  refine enter (by kernel_rfl) e64 (by kernel_rfl) rfl fun hok => ?_
  simp only [r64, initEnv_2]
  (try (simp (disch := first | omega | (simp <;> omega) | fail) only [push_cast, ↓reduceIte, Nat.reduceEqDiff, Nat.reduceAdd, Nat.reduceMul, Nat.reduceSub, Nat.reduceLT, Int.reduceToNat]))
  refine (c_impl_sortedOk o lim h0 h9).call ?_
  have hpm : (h.length ≤ h.length) = True := by simp
  cases hs : srt (lI o) lim
  · have hnone : ∀ {hh : H}, ∃ t, Ow hh [.tup [.agg [.int .i64 0, .int .i64 0, .int .i64 0, .int .i64 0, .nils, .int .i64 0, .nils], .bool false]] [t] (fun c => h.length ≤ c) ∧ t = .tup [eSp zSp, .bool false] := fun {hh} => ⟨_, (Ow.two (F := fun _ => False) (F' := fun _ => False) (Ow.aggOf (ts := cSp zSp) (.atom rfl (.atom rfl (.atom rfl (.atom rfl (.atom rfl (.atom rfl (.atom rfl .nil)))))))) (.atom rfl .nil) (fun c (hc : False) => hc.elim) (fun _ h => h.elim)).tupOf, rfl⟩
    (try (simp (disch := first | omega | (simp <;> omega) | fail) only [push_cast, ↓reduceIte, Nat.reduceEqDiff, Nat.reduceAdd, Nat.reduceMul, Nat.reduceSub, Nat.reduceLT, Int.reduceToNat, hpm]))
    all_goals (try exact hnone)
  · obtain ⟨g1, g2, g3, g4, g5, g6⟩ := srt_nat hs
    have hsp := c_impl_sparse_o ((lI o).map Int.toNat) lim.toNat o g1.symm g3 g4 g5 g2
    rw [g6] at hsp
    (try (simp (disch := first | omega | (simp <;> omega) | fail) only [push_cast, ↓reduceIte, Nat.reduceEqDiff, Nat.reduceAdd, Nat.reduceMul, Nat.reduceSub, Nat.reduceLT, Int.reduceToNat, hpm]))
    refine hsp.go fun x t k hR hx how => ?_
    subst hR
    obtain ⟨x5, x7, F5, F7, rfl, p5, p7, u5, u7, _⟩ := ow_sp how
    obtain ⟨c1, c2⟩ := ow_eI p5
    obtain ⟨c3, c4⟩ := ow_eI p7
    have hb1 : H.cells k h.length = some zero7 := hx.cells (by rw [cells_h0]; rfl)
    have hlk := hx.len
    simp only [List.length_append, List.length_cons, List.length_nil] at hlk how
    have hw : ∀ cs, H.cells (wr k h.length cs) h.length = some cs := fun cs => cells_wr2 (cells_lt hb1)
    have hfin : ∀ cs, ∃ t, Ow (wr k h.length cs) [.tup [.agg [.int .i64 (spV ((lI o).map Int.toNat) lim.toNat).count, .int .i64 (spV ((lI o).map Int.toNat) lim.toNat).limit, .int .i64 (spV ((lI o).map Int.toNat) lim.toNat).width, .int .i64 (spV ((lI o).map Int.toNat) lim.toNat).low.size, x5, .int .i64 (spV ((lI o).map Int.toNat) lim.toNat).high.size, x7], .bool true]] [t] (fun c => h.length ≤ c) ∧ t = .tup [eSp (spV ((lI o).map Int.toNat) lim.toNat), .bool true] := fun cs => by
      refine ⟨_, (Ow.two (F := fun c => h.length ≤ c) (F' := fun _ => False) ((how.frame fun c hc => ?_).mono fun c hc => by have := hc.1; omega) (.atom rfl .nil) (fun c hc => hc) (fun _ h => h.elim)).tupOf, rfl⟩
      have := hc.1
      unfold wr
      rw [List.getElem?_set_ne (by omega)]
    unfold zero7 at hb1
    generalize spV ((lI o).map Int.toNat) lim.toNat = S at *
    (try (simp (disch := first | omega | (simp <;> omega) | fail) only [push_cast, ↓reduceIte, Nat.reduceEqDiff, Nat.reduceAdd, Nat.reduceMul, Nat.reduceSub, Nat.reduceLT, Int.reduceToNat, hb1, hpm, hw, c1, c2, c3, c4]))
    all_goals (try exact hfin _)

theorem c_impl_LoadSparse_o (s : Str) (hsl : s.length ≤ 1000000000) : FnO Tryd.prog 30 [.str s] (· = lsV s) := by
  intro h
  refine enter (by kernel_rfl) e30 (by kernel_rfl) rfl fun hok => ?_
  simp only [r30, initEnv_1]
  have hnone : ∀ {hh : H}, lsP s = none → ∃ t, Ow hh [.tup [.agg [.int .i64 0, .int .i64 0, .int .i64 0, .int .i64 0, .nils, .int .i64 0, .nils], .bool false]] [t] (fun c => h.length ≤ c) ∧ t = lsV s := fun h1 => ⟨_, (Ow.two (F := fun _ => False) (F' := fun _ => False) (Ow.aggOf (ts := cSp zSp) (.atom rfl (.atom rfl (.atom rfl (.atom rfl (.atom rfl (.atom rfl (.atom rfl .nil)))))))) (.atom rfl .nil) (fun c (hc : False) => hc.elim) (fun _ h => h.elim)).tupOf, (ls_none h1).symm⟩
  have hpm : (h.length ≤ h.length) = True := by simp
  (try (simp (disch := first | omega | (simp <;> omega) | fail) only [push_cast, ↓reduceIte, Nat.reduceEqDiff, Nat.reduceAdd, Nat.reduceMul, Nat.reduceSub, Nat.reduceLT, Int.reduceToNat]))
  refine (c_impl_opened s [115, 112, 97, 114, 115, 101] hsl).call ?_
  unfold openedV
  rcases ls_split (s := s) with ⟨W, hk, hL, hne, hlw, hWd⟩ | ⟨hlw, hno⟩
  · have hlp : lsP s = lsN (W.map rdN) := by unfold lsP; rw [hlw]
    have h6 := open_len hk
    have hnl := splitL_nlen 32 (beforeT s)
    have hlen := splitL_len 32 (beforeT s)
    rw [hL] at hnl hlen
    rw [if_pos ⟨hk, by rw [hL]; rfl⟩, show (splitL 32 (beforeT s)).drop 1 = W by rw [hL]; rfl]
    have hWl : lS (some W) = W := rfl
    have hWll : (lS (some W)).length = W.length := rfl
    have hWp := List.length_pos_iff.2 hne
    have hWb : W.length ≤ 6001 := by simp at hnl; omega
    have hd0 : decide ((W.length : Int) = 0) = false := by simp; omega
    (try (simp (disch := first | omega | (simp <;> omega) | fail) only [push_cast, ↓reduceIte, Nat.reduceEqDiff, Nat.reduceAdd, Nat.reduceMul, Nat.reduceSub, Nat.reduceLT, Int.reduceToNat, hWl, hd0]))
    refine T_for W.length (fun i e h' => ∃ (v : AV) (N : List Int), Pins e [(2, .adr h.length 0), (3, .bool false), (6, v), (25, eS (some W)), (26, .int .i64 W.length), (27, .int .i64 i)] ∧ LzI (h.length + 1) h' v N ∧ H.cells h' h.length = some zero7 ∧ (N.length = i ∧ (∀ j, j < i → 0 ≤ N.getD j 0 ∧ N.getD j 0 ≤ 9223372036854775807) ∧ ∀ j, j < i → N.getD j 0 = rdN (W.getD j []) ∨ (1000000 ≤ N.getD j 0 ∧ rdN (W.getD j []) < 0))) ?_ ?_
    · refine ⟨.sl (h.length + 1) 0 1 0 0, [], ?_⟩
      (try (simp (disch := first | omega | (simp <;> omega) | fail) only [push_cast, ↓reduceIte, Nat.reduceEqDiff, Nat.reduceAdd, Nat.reduceMul, Nat.reduceSub, Nat.reduceLT, Int.reduceToNat, hWl]))
      have hini : ∀ a, LzI (h.length + 1) (h ++ [a, some (.cells [])]) (.sl (h.length + 1) 0 1 0 0) [] := fun a => ⟨by simp, [h.length + 1], ⟨by simp, .inr ⟨h.length + 1, rfl, rfl, by rw [cells_hk]; rfl⟩⟩, by simp⟩
      all_goals (try exact ⟨hini _, by rw [cells_h0]; rfl, by simp, by simp, by simp⟩)
      all_goals (try exact ⟨hini _, rfl, fun _ _ => trivial, fun j hj => absurd hj (Nat.not_lt_zero j)⟩)
      all_goals (try exact ⟨hini _, rfl⟩)
      all_goals (try exact ⟨hini _, by rw [cells_h0]; rfl⟩)
    rintro i e h' hi ⟨v, N, hp, hs, hbx, hN, hNr, hNe⟩
    refine T_pins hp fun e => ?_
    have hw : ∀ cs, H.cells (wr h' h.length cs) h.length = some cs := fun cs => cells_wr2 (cells_lt hbx)
    have hbx2 := hbx
    unfold zero7 at hbx2
    (try (simp (disch := first | omega | (simp <;> omega) | fail) only [push_cast, ↓reduceIte, Nat.reduceEqDiff, Nat.reduceAdd, Nat.reduceMul, Nat.reduceSub, Nat.reduceLT, Int.reduceToNat]))
    first | refine goC_split (fun hc => ?_) (fun hc => ?_) | refine cnd_split (fun hc => ?_) (fun hc => ?_)
    · (try (simp only [decide_eq_true_eq, decide_eq_false_iff_not, Bool.not_eq_true', Bool.not_eq_false', Bool.and_eq_true, Bool.or_eq_true, Int.not_lt, Int.not_le] at hc)); (try (simp (disch := first | omega | (simp <;> omega) | fail) only [push_cast, ↓reduceIte, Nat.reduceEqDiff, Nat.reduceAdd, Nat.reduceMul, Nat.reduceSub, Nat.reduceLT, Int.reduceToNat]))
      have hi2 : i < W.length := by omega
      have hgw : ((lS (some W)).map AV.str)[i]? = some (.str (W.getD i [])) := get_S hi2
      have hwl := hlen (W.getD i []) (by simp [hi2])
      (try (simp (disch := first | omega | (simp <;> omega) | fail) only [push_cast, ↓reduceIte, Nat.reduceEqDiff, Nat.reduceAdd, Nat.reduceMul, Nat.reduceSub, Nat.reduceLT, Int.reduceToNat, hWl, hgw]))
      refine (c_impl_number (W.getD i []) (by omega)).use ?_
      rintro x ⟨n, b, rfl, n1, n2, n3, n4⟩
      cases b
      · have hneg : rdN (W.getD i []) < 0 := by
          rcases Int.lt_or_le (rdN (W.getD i [])) 0 with h5 | h5
          · exact h5
          · obtain ⟨k, k1, k2, k3⟩ := rd_back (a := W.getD i []) rfl h5
            exact absurd (n2 k k2 k3).1 (by decide)
        have hl : lsP s = none := by
          rw [hlp]
          exact lsN_bad (i := i) (by simpa using hi2) (.inl (by simpa [hi2] using hneg))
        (try (simp (disch := first | omega | (simp <;> omega) | fail) only [push_cast, ↓reduceIte, Nat.reduceEqDiff, Nat.reduceAdd, Nat.reduceMul, Nat.reduceSub, Nat.reduceLT, Int.reduceToNat, hbx2, hpm, hw]))
        all_goals (try exact hnone hl)
      · obtain ⟨m1, m2⟩ := n1 rfl
        have hrel : n = rdN (W.getD i []) ∨ (1000000 ≤ n ∧ rdN (W.getD i []) < 0) := by
          rcases Int.lt_or_le n 1000000 with h5 | h5
          · left
            rw [m2, rd_dec (by omega)]
            omega
          · right
            refine ⟨h5, ?_⟩
            rcases Int.lt_or_le (rdN (W.getD i [])) 0 with h7 | h7
            · exact h7
            · obtain ⟨k, k1, k2, k3⟩ := rd_back (a := W.getD i []) rfl h7
              have := (n2 k k2 k3).2
              omega
        have hap : ∀ j, (N ++ [n]).getD j 0 = if j = i then n else N.getD j 0 := fun j => by
          by_cases hj : j = i
          · rw [if_pos hj, hj, ← hN]
            simp
          · rw [if_neg hj]
            rcases Nat.lt_or_ge j N.length with h5 | h5
            · simp only [List.getD_eq_getElem?_getD, List.getElem?_append_left h5]
            · have e1 : (N ++ [n])[j]? = none := List.getElem?_eq_none (by simp; omega)
              have e2 : N[j]? = none := List.getElem?_eq_none (by omega)
              simp only [List.getD_eq_getElem?_getD, e1, e2]
        have hnx : (N ++ [n]).length = i + 1 ∧ (∀ j, j < i + 1 → 0 ≤ (N ++ [n]).getD j 0 ∧ (N ++ [n]).getD j 0 ≤ 9223372036854775807) ∧ ∀ j, j < i + 1 → (N ++ [n]).getD j 0 = rdN (W.getD j []) ∨ (1000000 ≤ (N ++ [n]).getD j 0 ∧ rdN (W.getD j []) < 0) := by
          refine ⟨by simp [hN], fun j hj => ?_, fun j hj => ?_⟩
          · rw [hap]
            by_cases h5 : j = i
            · rw [if_pos h5]
              omega
            · rw [if_neg h5]
              exact hNr j (by omega)
          · rw [hap]
            by_cases h5 : j = i
            · rw [if_pos h5, h5]
              exact hrel
            · rw [if_neg h5]
              exact hNe j (by omega)
        (try (simp (disch := first | omega | (simp <;> omega) | fail) only [push_cast, ↓reduceIte, Nat.reduceEqDiff, Nat.reduceAdd, Nat.reduceMul, Nat.reduceSub, Nat.reduceLT, Int.reduceToNat]))
        refine hs.app (fun c hc => Or.inr (by omega)) (by omega) fun v' h'' q1 q2 q3 => ?_
        have hbx3 := cells_keep (q2 h.length (by omega)) hbx
        (try (simp (disch := first | omega | (simp <;> omega) | fail) only [push_cast, ↓reduceIte, Nat.reduceEqDiff, Nat.reduceAdd, Nat.reduceMul, Nat.reduceSub, Nat.reduceLT, Int.reduceToNat]))
        all_goals (try exact ⟨_, _, rfl, q1, hbx3, hnx⟩)
        all_goals (try exact ⟨_, _, q1, hbx3, hnx⟩)
    · (try (simp only [decide_eq_true_eq, decide_eq_false_iff_not, Bool.not_eq_true', Bool.not_eq_false', Bool.and_eq_true, Bool.or_eq_true, Int.not_lt, Int.not_le] at hc)); (try (simp (disch := first | omega | (simp <;> omega) | fail) only [push_cast, ↓reduceIte, Nat.reduceEqDiff, Nat.reduceAdd, Nat.reduceMul, Nat.reduceSub, Nat.reduceLT, Int.reduceToNat]))
      have hie : i = W.length := by omega
      subst hie
      obtain ⟨x, l, rfl⟩ : ∃ x l, N = x :: l := by
        cases N with
        | nil => simp at hN; omega
        | cons x l => exact ⟨x, l, rfl⟩
      have hsame : lsN (x :: l) = lsN (W.map rdN) := lsN_same (by rw [List.length_map, hN]) fun j hj => by
        rw [hN] at hj
        have h5 : (W.map rdN).getD j 0 = rdN (W.getD j []) := by simp [hj]
        rw [h5]
        exact hNe j hj
      rw [← hsame] at hlp
      have hx0 := hNr 0 hWp
      simp only [List.getD_cons_zero] at hx0
      obtain ⟨b, rfl, hbn, hcb⟩ := hs.sl (by simp)
      have hvt := vw_tail (n0 := 0) hcb (Nat.zero_le _)
      have hl1 : (x :: l).length = l.length + 1 := rfl
      have hsub : l.length + 1 - 1 = l.length := by omega
      have hll : lI (some l) = l := rfl
      have hcb2 : H.cells h' b = some (.int .i64 x :: l.map (.int .i64)) := hcb
      have hllen : l.length + 1 ≤ 10000 := by
        rw [List.length_cons] at hN
        omega
      have hbs := c_impl_BuildSparse_o (some l) x (by omega) hx0.2
      rw [hll] at hbs
      have hlN : lsN (x :: l) = if srt l x then some (spV (l.map Int.toNat) x.toNat) else none := rfl
      rw [hlN] at hlp
      have hval : (if srt l x = true then AV.tup [eSp (spV (l.map Int.toNat) x.toNat), .bool true] else .tup [eSp zSp, .bool false]) = lsV s := by
        cases hsr : srt l x
        · rw [hsr] at hlp
          rw [ls_none hlp]
          rfl
        · rw [hsr] at hlp
          rw [ls_some hlp]
          rfl
      rw [hval] at hbs
      unfold lsV at hbs
      (try (simp (disch := first | omega | (simp <;> omega) | fail) only [push_cast, ↓reduceIte, Nat.reduceEqDiff, Nat.reduceAdd, Nat.reduceMul, Nat.reduceSub, Nat.reduceLT, Int.reduceToNat, hl1, hsub, hcb2, reads, List.mem_cons, List.mem_append, List.not_mem_nil, nat_ff, or_self, or_false, false_or, not_false_eq_true]))
      refine hbs.goL (.cons hvt (.free free_int .nil)) fun y t k hR hx how => ?_
      subst hR
      obtain ⟨z, rfl, how2⟩ := ow_tup2 how
      obtain ⟨x5, x7, F5, F7, rfl, p5, p7, u5, u7, _⟩ := ow_sp how2
      obtain ⟨c1, c2⟩ := ow_eI p5
      obtain ⟨c3, c4⟩ := ow_eI p7
      have hbk := hx.cells hbx2
      have hwk : ∀ cs, H.cells (wr k h.length cs) h.length = some cs := fun cs => cells_wr2 (cells_lt hbk)
      have hlt := cells_lt hbx
      have hfin : ∀ cs, ∃ t, Ow (wr k h.length cs) [.tup [.agg [.int .i64 (lsSp s).count, .int .i64 (lsSp s).limit, .int .i64 (lsSp s).width, .int .i64 (lsSp s).low.size, x5, .int .i64 (lsSp s).high.size, x7], .bool (lsq s)]] [t] (fun c => h.length ≤ c) ∧ t = lsV s := fun cs => by
        refine ⟨_, (Ow.two (F := fun c => h.length ≤ c) (F' := fun _ => False) ((how2.frame fun c hc => ?_).mono fun c hc => by have := hc.1; omega) (.atom rfl .nil) (fun c hc => hc) (fun _ h => h.elim)).tupOf, rfl⟩
        have := hc.1
        unfold wr
        rw [List.getElem?_set_ne (by omega)]
      (try (simp (disch := first | omega | (simp <;> omega) | fail) only [push_cast, ↓reduceIte, Nat.reduceEqDiff, Nat.reduceAdd, Nat.reduceMul, Nat.reduceSub, Nat.reduceLT, Int.reduceToNat, hbk, hpm, hwk, c1, c2, c3, c4, reads, List.mem_cons, List.mem_append, List.not_mem_nil, nat_ff, or_self, or_false, false_or, not_false_eq_true]))
      all_goals (try exact hfin _)
  · have hl := ls_closed hlw
    by_cases hop : openOk s (beforeT s) = true ∧ (splitL 32 (beforeT s)).getD 0 [] = [115, 112, 97, 114, 115, 101]
    · rw [if_pos hop]
      have h0 : (splitL 32 (beforeT s)).drop 1 = [] := by
        by_cases h5 : (splitL 32 (beforeT s)).drop 1 = []
        · exact h5
        · exact absurd ⟨hop.1, hop.2, h5⟩ hno
      rw [h0]
      have hl0 : (lS (some ([] : List Str))).length = 0 := rfl
      (try (simp (disch := first | omega | (simp <;> omega) | fail) only [push_cast, ↓reduceIte, Nat.reduceEqDiff, Nat.reduceAdd, Nat.reduceMul, Nat.reduceSub, Nat.reduceLT, Int.reduceToNat, hl0]))
      all_goals (try exact hnone hl)
    · rw [if_neg hop]
      (try (simp (disch := first | omega | (simp <;> omega) | fail) only [push_cast, ↓reduceIte, Nat.reduceEqDiff, Nat.reduceAdd, Nat.reduceMul, Nat.reduceSub, Nat.reduceLT, Int.reduceToNat]))
      all_goals (try exact hnone hl)

theorem c_laws_eqSparse (s : Spa) : Fn Tryd.prog 28 [eSp s, eSp s] (· = .bool true) := by
  refine Fn.of free_bool fun h => ?_
  refine enter (by kernel_rfl) e28 (by kernel_rfl) rfl fun hok => ?_
  simp only [r28, initEnv_2]
  have hb : ∀ b : Bt, Fn Tryd.prog 10 [eB b, eB b] (· = .bool true) := fun b => by
    have := c_laws_eqBits b b
    simpa using this
  (try (simp (disch := first | omega | (simp <;> omega) | fail) only [push_cast, ↓reduceIte, Nat.reduceEqDiff, Nat.reduceAdd, Nat.reduceMul, Nat.reduceSub, Nat.reduceLT, Int.reduceToNat]))
  refine (hb s.low).call ?_
  (try (simp (disch := first | omega | (simp <;> omega) | fail) only [push_cast, ↓reduceIte, Nat.reduceEqDiff, Nat.reduceAdd, Nat.reduceMul, Nat.reduceSub, Nat.reduceLT, Int.reduceToNat]))
  refine (hb s.high).call ?_
  (try (simp (disch := first | omega | (simp <;> omega) | fail) only [push_cast, ↓reduceIte, Nat.reduceEqDiff, Nat.reduceAdd, Nat.reduceMul, Nat.reduceSub, Nat.reduceLT, Int.reduceToNat]))

def mkSp (k : Int) (s : Spa) : Spa := ⟨s.count, s.limit, s.width, mkBt k s.low, mkBt (k + (lI s.low.words).length) s.high⟩
theorem ow_in {h : H} {n : Int} {x : AV} {b : Bt} {F : Nat → Prop} (ho : Ow h [.agg [.int .i64 n, x]] [eB b] F) : Ow h [x] [eI b.words] F := by
  obtain ⟨cs, he, h1⟩ := Ow.openAgg (show Ow h [.agg [.int .i64 n, x]] [.agg (cB b)] F from ho)
  injection he with he
  subst he
  obtain ⟨_, F2, _, f2, _, f3⟩ := h1.uncons
  exact f2.mono fun c hc => (f3 c hc).1
theorem c_laws_markSparse (v : AV) (s : Spa) (G : Nat → Prop) (k : Int) (h : H) (hs : Ow h [v] [eSp s] G) (hG : ∀ c, G c → c < h.length) (hk : 0 ≤ k) (hk2 : k + (lI s.low.words).length + (lI s.high.words).length ≤ 100000000) :
    Call Tryd.prog 31 [v, .int .i64 k] h G (fun x h' => x = .int .i64 (k + (lI s.low.words).length + (lI s.high.words).length) ∧ Kq G h h' ∧ Ow h' [v] [eSp (mkSp k s)] G) := by
  obtain ⟨x5, x7, F5, F7, rfl, p5, p7, u5, u7, hre⟩ := ow_sp hs
  obtain ⟨c1, c2⟩ := ow_eI p5
  obtain ⟨c3, c4⟩ := ow_eI p7
  refine enter (by kernel_rfl) e31 (by kernel_rfl) rfl fun hok => ?_
  simp only [r31, initEnv_2]
  have g5 : ∀ l : H, Ow (h ++ l) [.agg [.int .i64 s.low.size, x5]] [eB s.low] F5 := fun l => Ow.aggOf (ts := cB s.low) (.atom rfl (p5.frame fun c hc => List.getElem?_append_left (hG c (u5 c hc))))
  (try (simp (disch := first | omega | (simp <;> omega) | fail) only [push_cast, ↓reduceIte, Nat.reduceEqDiff, Nat.reduceAdd, Nat.reduceMul, Nat.reduceSub, Nat.reduceLT, Int.reduceToNat, c1, c2, c3, c4]))
  refine (c_laws_markBits _ s.low F5 k _ (g5 _) (fun c hc => by have := hG c (u5 c hc); simp; omega) hk (by omega)).mono (fun x h2 hx => ?_) (fun c hc hF => Or.inl (u5 c hF))
  obtain ⟨rfl, hk1, ho5⟩ := hx
  have hl2 := hk1.1
  simp only [List.length_append, List.length_cons, List.length_nil] at hl2
  have hb2 : H.cells h2 h.length = some [.int .i64 s.count, .int .i64 s.limit, .int .i64 s.width, .int .i64 s.low.size, x5, .int .i64 s.high.size, x7] := cells_keep_ (hk1.2 _ (by simp) fun hc => by have := hG _ (u5 _ hc); omega) (by rw [cells_h0]; rfl)
  have p72 : Ow h2 [x7] [eI s.high.words] F7 := p7.frame fun c hc => (hk1.2 c (by have := hG c (u7 c hc).1; simp; omega) (u7 c hc).2).trans (List.getElem?_append_left (hG c (u7 c hc).1))
  have g7 : Ow h2 [.agg [.int .i64 s.high.size, x7]] [eB s.high] F7 := Ow.aggOf (ts := cB s.high) (.atom rfl p72)
  (try (simp (disch := first | omega | (simp <;> omega) | fail) only [push_cast, ↓reduceIte, Nat.reduceEqDiff, Nat.reduceAdd, Nat.reduceMul, Nat.reduceSub, Nat.reduceLT, Int.reduceToNat, hb2, c1, c2, c3, c4]))
  refine (c_laws_markBits _ s.high F7 (k + (lI s.low.words).length) _ g7 (fun c hc => by have := hG c (u7 c hc).1; omega) (by omega) (by omega)).mono (fun x h3 hx => ?_) (fun c hc hF => Or.inl (u7 c hF).1)
  obtain ⟨rfl, hk3, ho7⟩ := hx
  have hl3 := hk3.1
  have p53 : Ow h3 [x5] [eI (mkBt k s.low).words] F5 := (ow_in ho5).frame fun c hc => hk3.2 c (by have := hG c (u5 c hc); omega) fun h5 => (u7 c h5).2 hc
  have hfin := hre h3 _ _ p53 (ow_in ho7)
  have hkq : Kq G h h3 := ⟨by omega, fun c hc hn => (hk3.2 c (by omega) fun h5 => hn (u7 c h5).1).trans ((hk1.2 c (by simp; omega) fun h5 => hn (u5 c h5)).trans (List.getElem?_append_left hc))⟩
  (try (simp (disch := first | omega | (simp <;> omega) | fail) only [push_cast, ↓reduceIte, Nat.reduceEqDiff, Nat.reduceAdd, Nat.reduceMul, Nat.reduceSub, Nat.reduceLT, Int.reduceToNat]))
  all_goals (try exact ⟨hkq, hfin⟩)

theorem c_laws_heldSparse (s : Spa) (k : Int) (hk : 0 ≤ k) (hk2 : k + (lI s.low.words).length + (lI s.high.words).length ≤ 100000000) : Fn Tryd.prog 32 [eSp (mkSp k s), .int .i64 k] (· = .int .i64 (k + (lI s.low.words).length + (lI s.high.words).length)) := by
  refine Fn.of free_int fun h => ?_
  refine enter (by kernel_rfl) e32 (by kernel_rfl) rfl fun hok => ?_
  simp only [r32, initEnv_2]
  have h1 := c_laws_heldBits s.low k hk (by omega)
  have h2 := c_laws_heldBits s.high (k + (lI s.low.words).length) (by omega) (by omega)
  unfold mkSp
  generalize mkBt k s.low = a at *
  generalize mkBt (k + (lI s.low.words).length) s.high = b at *
  obtain ⟨a1, a2⟩ := a
  obtain ⟨b1, b2⟩ := b
  (try (simp (disch := first | omega | (simp <;> omega) | fail) only [push_cast, ↓reduceIte, Nat.reduceEqDiff, Nat.reduceAdd, Nat.reduceMul, Nat.reduceSub, Nat.reduceLT, Int.reduceToNat]))
  refine h1.call ?_
  (try (simp (disch := first | omega | (simp <;> omega) | fail) only [push_cast, ↓reduceIte, Nat.reduceEqDiff, Nat.reduceAdd, Nat.reduceMul, Nat.reduceSub, Nat.reduceLT, Int.reduceToNat]))
  refine h2.call ?_
  (try (simp (disch := first | omega | (simp <;> omega) | fail) only [push_cast, ↓reduceIte, Nat.reduceEqDiff, Nat.reduceAdd, Nat.reduceMul, Nat.reduceSub, Nat.reduceLT, Int.reduceToNat]))

theorem spLen {L : List Nat} {lim : Nat} (hL : L.length ≤ 60) (hl : lim ≤ 100000) : (lI (spV L lim).low.words).length ≤ 10000 ∧ (lI (spV L lim).high.words).length ≤ 10000 := by
  have h1 := hiS_le hL hl
  have h2 := wid_le (c := L.length) hl
  have h3 : L.length * wid L.length lim ≤ 60 * 16 := Nat.mul_le_mul hL h2
  refine ⟨?_, ?_⟩
  · show (wordsN _ _).length ≤ 10000
    rw [wordsN_len]
    omega
  · show (wordsN _ _).length ≤ 10000
    rw [wordsN_len]
    omega
theorem lsSp_len {s : Str} : (lI (lsSp s).low.words).length ≤ 10000 ∧ (lI (lsSp s).high.words).length ≤ 10000 := by
  have hz : (lI zSp.low.words).length ≤ 10000 ∧ (lI zSp.high.words).length ≤ 10000 := by simp [zSp, lI]
  have key : ∀ ns p, lsN ns = some p → (lI p.low.words).length ≤ 10000 ∧ (lI p.high.words).length ≤ 10000 := fun ns p hp => by
    cases ns with
    | nil => cases hp
    | cons x l =>
      unfold lsN at hp
      simp only at hp
      split at hp
      · rename_i hsr
        injection hp with hp
        obtain ⟨g1, g2, g3, g4, g5, g6⟩ := srt_nat hsr
        rw [← hp]
        exact spLen g3 g5
      · cases hp
  unfold lsSp
  cases hp : lsP s with
  | none => exact hz
  | some p =>
    unfold lsP at hp
    split at hp
    · exact key _ _ hp
    · cases hp
def sh_FnExactLoadSparse : List Sh := [.str]
theorem law_FnExactLoadSparse (ys : List AV) (hy : ArgsFit sh_FnExactLoadSparse ys) : Call Tryd.prog 7 ys [] Nowhere (fun x _ => x = .bool true) := by
  obtain ⟨x1, y1, rfl, h1, hy⟩ := argsFit_cons hy
  obtain rfl := argsFit_nil hy
  obtain ⟨s, rfl, hsl⟩ := fit_str h1
  refine (?_ : ∀ h, Call Tryd.prog 7 [.str s] h Nowhere (fun x _ => x = .bool true)) []
  intro h
  refine enter (by kernel_rfl) e7 (by kernel_rfl) rfl fun hok => ?_
  simp only [r7, initEnv_1]
  (try (simp (disch := first | omega | (simp <;> omega) | fail) only [push_cast, ↓reduceIte, Nat.reduceEqDiff, Nat.reduceAdd, Nat.reduceMul, Nat.reduceSub, Nat.reduceLT, Int.reduceToNat]))
  first | refine goC_split (fun hc => ?_) (fun hc => ?_) | refine cnd_split (fun hc => ?_) (fun hc => ?_)
  · (try (simp only [decide_eq_true_eq, decide_eq_false_iff_not, Bool.not_eq_true', Bool.not_eq_false', Bool.and_eq_true, Bool.or_eq_true, Int.not_lt, Int.not_le] at hc)); (try (simp (disch := first | omega | (simp <;> omega) | fail) only [push_cast, ↓reduceIte, Nat.reduceEqDiff, Nat.reduceAdd, Nat.reduceMul, Nat.reduceSub, Nat.reduceLT, Int.reduceToNat]))
  (try (simp only [decide_eq_true_eq, decide_eq_false_iff_not, Bool.not_eq_true', Bool.not_eq_false', Bool.and_eq_true, Bool.or_eq_true, Int.not_lt, Int.not_le] at hc)); (try (simp (disch := first | omega | (simp <;> omega) | fail) only [push_cast, ↓reduceIte, Nat.reduceEqDiff, Nat.reduceAdd, Nat.reduceMul, Nat.reduceSub, Nat.reduceLT, Int.reduceToNat]))
  refine (c_spec_LoadSparse s).call ?_
  have himpl := c_impl_LoadSparse_o s (by omega)
  obtain ⟨hal, hah⟩ := lsSp_len (s := s)
  unfold lsV at himpl ⊢
  generalize lsSp s = a at *
  generalize lsq s = q at *
  have heqB := c_laws_eqSparse a
  have hea : eSp a = .agg [.int .i64 a.count, .int .i64 a.limit, .int .i64 a.width, .int .i64 a.low.size, eI a.low.words, .int .i64 a.high.size, eI a.high.words] := rfl
  (try (simp (disch := first | omega | (simp <;> omega) | fail) only [push_cast, ↓reduceIte, Nat.reduceEqDiff, Nat.reduceAdd, Nat.reduceMul, Nat.reduceSub, Nat.reduceLT, Int.reduceToNat]))
  refine himpl.go fun y t h1 hR hx1 how => ?_
  subst hR
  obtain ⟨g0, rfl, how2⟩ := ow_tup2 how
  clear how
  obtain ⟨x5, x7, F5, F7, rfl, p5, p7, u5, u7, _⟩ := ow_sp how2
  obtain ⟨f1, f2⟩ := ow_eI p5
  obtain ⟨f3, f4⟩ := ow_eI p7
  clear p5 p7 u5 u7
  have hl1 := hx1.len
  simp only [List.length_append, List.length_cons, List.length_nil] at hl1 how2
  obtain ⟨g, hg⟩ : ∃ g, g = [AV.int .i64 a.count, .int .i64 a.limit, .int .i64 a.width, .int .i64 a.low.size, x5, .int .i64 a.high.size, x7] := ⟨_, rfl⟩
  have hc1 : ∀ l, H.cells (h1 ++ l) h.length = some [.int .i64 a.count, .int .i64 a.limit, .int .i64 a.width, .int .i64 a.low.size, eI a.low.words, .int .i64 a.high.size, eI a.high.words] := fun l => cells_app (hx1.cells (by rw [cells_h0]; rfl))
  have how4 : Ow (h1 ++ [some (.cells [.int .i64 a.count, .int .i64 a.limit, .int .i64 a.width, .int .i64 a.low.size, x5, .int .i64 a.high.size, x7])]) [.agg [.int .i64 a.count, .int .i64 a.limit, .int .i64 a.width, .int .i64 a.low.size, x5, .int .i64 a.high.size, x7]] [eSp a] (Seg (h.length + 1) h1) := Ext.refl.app.ow how2
  clear how2
  (try (simp (disch := first | omega | (simp <;> omega) | fail) only [push_cast, ↓reduceIte, Nat.reduceEqDiff, Nat.reduceAdd, Nat.reduceMul, Nat.reduceSub, Nat.reduceLT, Int.reduceToNat, f1, f2, f3, f4, hc1]))
  refine heqB.lendL (.cons how4.vw0 (.free free_eSp .nil)) own_bool ?_
  (try (simp (disch := first | omega | (simp <;> omega) | fail) only [push_cast, ↓reduceIte, Nat.reduceEqDiff, Nat.reduceAdd, Nat.reduceMul, Nat.reduceSub, Nat.reduceLT, Int.reduceToNat, hc1]))
  refine (c_laws_markSparse _ a _ 1 _ how4 (fun c hc => by have := hc.2; simp; omega) (by omega) (by omega)).mono (fun x h4 hx => ?_) (fun c _ hc => Or.inr (by have := hc.1; omega))
  obtain ⟨rfl, hk2, how6⟩ := hx
  have hl4 := hk2.1
  simp only [List.length_append, List.length_cons, List.length_nil] at hl4
  have hc4 : ∀ l, H.cells (h4 ++ l) h.length = some [.int .i64 a.count, .int .i64 a.limit, .int .i64 a.width, .int .i64 a.low.size, eI a.low.words, .int .i64 a.high.size, eI a.high.words] := fun l => cells_app (cells_keep_ (hk2.2 _ (by simp; omega) fun hc => by have := hc.1; omega) (hc1 _))
  have hg4 : ∀ l, H.cells (h4 ++ l) h1.length = some [.int .i64 a.count, .int .i64 a.limit, .int .i64 a.width, .int .i64 a.low.size, x5, .int .i64 a.high.size, x7] := fun l => cells_app (cells_keep_ (hk2.2 _ (by simp) fun hc => by have := hc.2; omega) (by rw [cells_h0]; rfl))
  have hg40 := hg4 []
  have hc40 := hc4 []
  rw [List.append_nil] at hg40 hc40
  have how7 : ∀ l, Ow (h4 ++ l) [.agg [.int .i64 a.count, .int .i64 a.limit, .int .i64 a.width, .int .i64 a.low.size, x5, .int .i64 a.high.size, x7]] [eSp (mkSp 1 a)] (Seg (h.length + 1) h1) := fun l => how6.frame fun c hc => List.getElem?_append_left (by have := hc.2; omega)
  have hheld := c_laws_heldSparse a 1 (by omega) (by omega)
  (try (simp (disch := first | omega | (simp <;> omega) | fail) only [push_cast, ↓reduceIte, Nat.reduceEqDiff, Nat.reduceAdd, Nat.reduceMul, Nat.reduceSub, Nat.reduceLT, Int.reduceToNat, hg40]))
  refine hheld.lendL (.cons how6.vw0 (.free free_int .nil)) own_int ?_
  (try (simp (disch := first | omega | (simp <;> omega) | fail) only [push_cast, ↓reduceIte, Nat.reduceEqDiff, Nat.reduceAdd, Nat.reduceMul, Nat.reduceSub, Nat.reduceLT, Int.reduceToNat]))
  refine himpl.fn.call ?_
  (try (simp (disch := first | omega | (simp <;> omega) | fail) only [push_cast, ↓reduceIte, Nat.reduceEqDiff, Nat.reduceAdd, Nat.reduceMul, Nat.reduceSub, Nat.reduceLT, Int.reduceToNat, hc4]))
  refine heqB.call ?_
  (try (simp (disch := first | omega | (simp <;> omega) | fail) only [push_cast, ↓reduceIte, Nat.reduceEqDiff, Nat.reduceAdd, Nat.reduceMul, Nat.reduceSub, Nat.reduceLT, Int.reduceToNat, hg4]))
  refine hheld.lendL (.cons (how7 _).vw0 (.free free_int .nil)) own_int ?_
  (try (simp (disch := first | omega | (simp <;> omega) | fail) only [push_cast, ↓reduceIte, Nat.reduceEqDiff, Nat.reduceAdd, Nat.reduceMul, Nat.reduceSub, Nat.reduceLT, Int.reduceToNat]))

end Go.Proofs.YtoappkfndnggnaaDoor.M
