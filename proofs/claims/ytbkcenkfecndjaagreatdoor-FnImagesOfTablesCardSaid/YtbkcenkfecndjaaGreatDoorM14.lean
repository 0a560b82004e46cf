/-
  What a call makes comes back with nothing else; bytes.
-/
import Derived.Test.YtbkcenkfecndjaaGreatDoorM13
namespace Go.Proofs.YtbkcenkfecndjaaGreatDoor.M
open Go Go.RowKit
set_option linter.unusedVariables false
set_option linter.unusedSimpArgs false

/-- What is new may be forgotten in part; what is old is as it was. -/
theorem Call.tidy {P f args h} {Q Q' : AV → H → Prop} (hc : Call P f args h Nowhere Q) (hk : ∀ x h', Q x h' → h.length ≤ h'.length → ∃ l : H, h.length + l.length = h'.length ∧ (∀ (i : Nat) (o : AObj), l[i]? = some (some o) → h'[h.length + i]? = some (some o)) ∧ Q' x (h ++ l)) : Call P f args h Nowhere Q' := by
  refine ⟨hc.1, fun S w μ cargs hr ha => (hc.2 S w μ cargs hr ha).mono ?_⟩
  rintro e w' ⟨v, x, h', S', μ', rfl, hQ, hv, hr', hs⟩
  have hml := hr.len
  have hml' := hr'.len
  have hge : h.length ≤ h'.length := by rw [← hml, ← hml']; exact hs.len
  obtain ⟨l, hll, hlo, hQ'⟩ := hk x h' hQ hge
  have hkeep := fun b (hb : b < μ.length) => hs.kept b hb (fun hh => hh)
  let μ2 : Mu := μ ++ (List.range l.length).map fun i => match l[i]? with | some (some _) => (μ'[h.length + i]?).join | _ => none
  have hpre : ∀ b, b < h.length → μ2[b]? = μ[b]? := fun b hb => List.getElem?_append_left (by omega)
  have hnew : ∀ b i, b = h.length + i → i < l.length → μ2[b]? = some (match l[i]? with | some (some _) => (μ'[h.length + i]?).join | _ => none) := by
    intro b i hb hi
    show (μ ++ _)[b]? = _
    rw [List.getElem?_append_right (by omega), hb, hml, Nat.add_sub_cancel_left, List.getElem?_map, List.getElem?_range hi]
    rfl
  have hlen2 : μ2.length = h.length + l.length := by
    show (μ ++ _).length = _
    simp
    omega
  have hlive : ∀ (i : Nat) (o : AObj), l[i]? = some (some o) → ∃ m : MI, μ'[h.length + i]? = some (some m) ∧ μ2[h.length + i]? = some (some m) ∧ OR S' w' μ' m o := by
    intro i o hi
    obtain ⟨m, hm, ho⟩ := hr'.obj _ o (hlo i o hi)
    refine ⟨m, hm, ?_, ho⟩
    rw [hnew _ i rfl (List.getElem?_eq_some_iff.1 hi).1, hi, hm]
    rfl
  have hsub : ∀ (b : Nat) (m : MI), μ2[b]? = some (some m) → μ'[b]? = some (some m) := by
    intro b m hm
    by_cases hb : b < h.length
    · rw [hpre b hb] at hm
      rw [(hkeep b (by omega)).1]
      exact hm
    · have hb2 : b < h.length + l.length := by
        have := (List.getElem?_eq_some_iff.1 hm).1
        omega
      rw [hnew b (b - h.length) (by omega) (by omega)] at hm
      cases hl : l[b - h.length]? with
      | none => rw [hl] at hm; cases hm
      | some o =>
        cases o with
        | none => rw [hl] at hm; cases hm
        | some o =>
          obtain ⟨m', h1, _, _⟩ := hlive _ o hl
          rw [hl, h1] at hm
          injection hm with hm
          rw [show h.length + (b - h.length) = b by omega] at h1
          rw [h1, ← hm]
          rfl
  have hf2 : Fwd S' w' μ' S' w' μ2 := ⟨fun _ h => h, fun _ _ => rfl, by omega, fun b hb => by
    by_cases hb2 : b < h.length
    · left
      rw [hpre b hb2, (hkeep b (by omega)).1]
    · have hi : b - h.length < l.length := by omega
      cases h2 : μ2[b]? with
      | none =>
        rw [hnew b (b - h.length) (by omega) hi] at h2
        cases h2
      | some om =>
        cases om with
        | none => exact .inr rfl
        | some m => exact .inl (hsub b m h2).symm⟩
  have hfwd : Fwd S w μ S' w' μ2 := ⟨hs.s, hs.blk, by omega, fun b hb => .inl (hpre b (by omega))⟩
  refine ⟨v, x, h ++ l, S', μ2, rfl, hQ', hv.fwd hf2, ⟨by rw [hlen2]; simp, fun b o hb => ?_, fun b hb => ?_, fun b b' m m' hm hm' he => hr'.inj b b' m m' (hsub b m hm) (hsub b' m' hm') he, fun b m hm => hr'.out b m (hsub b m hm), hr'.lt, hr'.gl⟩,
    ⟨hfwd, hs.size, hs.os, hs.output, hs.tape, hs.drawn, fun b hb _ => ⟨hpre b (by omega), (hkeep b hb).2⟩⟩⟩
  · by_cases hlt : b < h.length
    · rw [List.getElem?_append_left hlt] at hb
      obtain ⟨m, hm, ho⟩ := hr.obj b o hb
      exact ⟨m, (hpre b hlt).trans hm, ho.fwd hfwd ((hkeep b (by omega)).2 m hm)⟩
    · rw [List.getElem?_append_right (by omega)] at hb
      obtain ⟨m, h1, h2, h3⟩ := hlive _ o hb
      rw [show h.length + (b - h.length) = b by omega] at h2
      exact ⟨m, h2, h3.fwd hf2 rfl⟩
  · by_cases hlt : b < h.length
    · rw [List.getElem?_append_left hlt] at hb
      exact (hpre b hlt).trans (hr.dead b hb)
    · rw [List.getElem?_append_right (by omega)] at hb
      have hi := (List.getElem?_eq_some_iff.1 hb).1
      rw [hnew b (b - h.length) (by omega) hi, hb]

/-- Of what is new only these blocks are kept. -/
noncomputable def keepL (n : Nat) (h' : H) (keep : Nat → Prop) : H := by
  classical exact (List.range (h'.length - n)).map fun i => if keep (n + i) then (h'[n + i]?).join else none
theorem keepL_len {n : Nat} {h' : H} {keep : Nat → Prop} (hn : n ≤ h'.length) : n + (keepL n h' keep).length = h'.length := by
  unfold keepL
  simp
  omega
theorem keepL_get {n : Nat} {h' : H} {keep : Nat → Prop} {i : Nat} {o : AObj} (hg : (keepL n h' keep)[i]? = some (some o)) : keep (n + i) ∧ h'[n + i]? = some (some o) := by
  classical
  unfold keepL at hg
  rw [List.getElem?_map, Option.map_eq_some_iff] at hg
  obtain ⟨j, hj, hg⟩ := hg
  have hji : j = i := by
    have hlt := (List.getElem?_eq_some_iff.1 hj).1
    rw [List.getElem?_range (by simpa using hlt)] at hj
    injection hj with hj
    exact hj.symm
  subst hji
  split at hg
  · rename_i hk
    refine ⟨hk, ?_⟩
    cases h2 : h'[n + j]? with
    | none => rw [h2] at hg; cases hg
    | some x => rw [h2] at hg; rw [← hg]; rfl
  · cases hg
theorem keepL_at {h h' : H} {keep : Nat → Prop} {b : Nat} {cs : List AV} (hn : h.length ≤ b) (hk : keep b) (hc : h'.cells b = some cs) : (h ++ keepL h.length h' keep)[b]? = h'[b]? := by
  classical
  have hb := cells_lt hc
  rw [List.getElem?_append_right hn]
  unfold keepL
  rw [List.getElem?_map, List.getElem?_range (by omega), Option.map_some, show h.length + (b - h.length) = b by omega, if_pos hk]
  cases h2 : h'[b]? with
  | none => rw [List.getElem?_eq_none_iff] at h2; omega
  | some x => rfl
theorem S1.cells {h : H} {sz n : Nat} {v : AV} {L : List AV} {B : List Nat} (hs : S1 h sz v n L B) : ∀ b ∈ B, h.cells b = some L := by
  rcases hs.2 with ⟨_, _, rfl⟩ | ⟨b, _, rfl, g5⟩
  · simp
  · intro b' hb'
    simp at hb'
    subst hb'
    exact g5
/-- Nested slices alone. -/
theorem SS.tidy {h h' : H} {n : Nat} {v : AV} {L vs B Bs} (hs : SS h' h.length v n L vs B Bs) (hle : h.length ≤ h'.length) :
    ∃ l : H, h.length + l.length = h'.length ∧ (∀ (i : Nat) (o : AObj), l[i]? = some (some o) → h'[h.length + i]? = some (some o)) ∧ SS (h ++ l) h.length v n L vs B Bs ∧ ∀ o ∈ l, OwnO h.length o := by
  have hs0 := hs
  obtain ⟨h1, h2, h3⟩ := hs0
  refine ⟨keepL h.length h' fun b => b ∈ B ∨ ∃ k, k < n ∧ b ∈ Bs k, keepL_len hle, fun i o hi => (keepL_get hi).2, hs.frame2 (fun b hb => keepL_at (h2 b hb) (.inl hb) (h1.cells b hb)) (fun k hk b hb => keepL_at ((h3 k hk).2.2.1 b hb).1 (.inr ⟨k, hk, hb⟩) ((h3 k hk).1.cells b hb)), fun o ho => ?_⟩
  cases o with
  | none => trivial
  | some o =>
    obtain ⟨i, hi⟩ := List.getElem?_of_mem ho
    obtain ⟨hk, hg⟩ := keepL_get hi
    have key : ∀ cs, h'.cells (h.length + i) = some cs → (∀ c ∈ cs, Own h.length c) → OwnO h.length (some o) := by
      intro cs hc hcs
      rw [cells_eq, hg] at hc
      cases o with
      | cells cs' =>
        injection hc with hc
        subst hc
        exact hcs
      | map es => cases hc
    rcases hk with hk | ⟨k, hk, hb⟩
    · refine key _ (h1.cells _ hk) (fun c hc => ?_)
      obtain ⟨k, hk, rfl⟩ := List.mem_map.1 hc
      obtain ⟨g1, g2, g3, g4⟩ := h3 k (by simpa using hk)
      exact g1.own fun b hb => (g3 b hb).1
    · refine key _ ((h3 k hk).1.cells _ hb) (fun c hc => ?_)
      obtain ⟨s, _, rfl⟩ := List.mem_map.1 hc
      exact own_str
/-! ### bytes -/
theorem wrap_u8 {n : Int} (h1 : 0 ≤ n) (h2 : n ≤ 255) : IntKind.u8.wrap n = n := by
  simp [IntKind.wrap, IntKind.signed, IntKind.bits]
  omega
def cbsA (h : H) : AV → Option AV
  | .nils => some (.str [])
  | .sl b off sz len _ => if sz = 1 then (h.cells b).bind fun cs => if off + len ≤ cs.length then (asInts ((cs.drop off).take len)).map .str else none else none
  | .ro sz cs len => if sz = 1 ∧ len ≤ cs.length then (asInts (cs.take len)).map .str else none
  | _ => none
theorem ev0_cbs {e : Env} {h : H} {x : Opd} : ev0 e h (.cbs x) = cbsA h (evO e x) := by
  simp only [ev0]
  generalize evO e x = v
  cases v <;> rfl
theorem cbsA_1 {h : H} {n : Int} : cbsA (h ++ [some (.cells [.int .u8 n])]) (.sl h.length 0 1 1 1) = some (.str [UInt8.ofNat n.toNat]) := by
  simp only [cbsA, cells_h0]
  rfl
def ieqA (n c : Bool) (x y : AV) : Option AV := (aieq c x y).map fun b => .bool (if n then !b else b)
theorem ev0_ieq {e : Env} {h : H} {n : Bool} {x : Opd} {v : AV} : ev0 e h (.ieq n x (.c v)) = ieqA n true (evO e x) v := rfl
theorem ieqA_nn {n : Bool} : ieqA n true .nili .nili = some (.bool !n) := by cases n <;> rfl
theorem ieqA_in {n c : Bool} : ieqA n c .ifc .nili = some (.bool n) := by cases n <;> cases c <;> rfl
attribute [push_cast] wrap_u8 ev0_cbs cbsA_1 ev0_ieq ieqA_nn ieqA_in
/-! ### built values -/
theorem fillA_c {cs : List AV} {off sz : Nat} {v : AV} {r : List (Nat × Nat × AV)} (h1 : (cellsOf v).length = sz) (h2 : off + sz ≤ cs.length) : fillA cs ((off, sz, v) :: r) = fillA (over cs off (cellsOf v)) r := by
  rw [fillA, if_pos ⟨h1, h2⟩]
theorem rep_1 {x : AV} : List.replicate 1 x = [x] := (rfl)
theorem fillA_ci {cs : List AV} {off : Nat} {k : IntKind} {n : Int} {r : List (Nat × Nat × AV)} (h2 : off + 1 ≤ cs.length) : fillA cs ((off, 1, .int k n) :: r) = fillA (over cs off [.int k n]) r := fillA_c rfl h2
theorem fillA_cb {cs : List AV} {off : Nat} {b : Bool} {r : List (Nat × Nat × AV)} (h2 : off + 1 ≤ cs.length) : fillA cs ((off, 1, .bool b) :: r) = fillA (over cs off [.bool b]) r := fillA_c rfl h2
theorem fillA_cs {cs : List AV} {off : Nat} {s : List UInt8} {r : List (Nat × Nat × AV)} (h2 : off + 1 ≤ cs.length) : fillA cs ((off, 1, .str s) :: r) = fillA (over cs off [.str s]) r := fillA_c rfl h2
theorem fillA_cn {cs : List AV} {off : Nat} {r : List (Nat × Nat × AV)} (h2 : off + 1 ≤ cs.length) : fillA cs ((off, 1, .nils) :: r) = fillA (over cs off [.nils]) r := fillA_c rfl h2
theorem fillA_csl {cs : List AV} {off b o s l k : Nat} {r : List (Nat × Nat × AV)} (h2 : off + 1 ≤ cs.length) : fillA cs ((off, 1, .sl b o s l k) :: r) = fillA (over cs off [.sl b o s l k]) r := fillA_c rfl h2
theorem fillA_cro {cs ts : List AV} {off s l : Nat} {r : List (Nat × Nat × AV)} (h2 : off + 1 ≤ cs.length) : fillA cs ((off, 1, .ro s ts l) :: r) = fillA (over cs off [.ro s ts l]) r := fillA_c rfl h2
theorem fillA_ca {cs ts : List AV} {off sz : Nat} {r : List (Nat × Nat × AV)} (h1 : ts.length = sz) (h2 : off + sz ≤ cs.length) : fillA cs ((off, sz, .agg ts) :: r) = fillA (over cs off ts) r := fillA_c h1 h2
theorem over_z1 {x y : AV} {cs : List AV} : over (x :: cs) 0 [y] = y :: cs := by simp [over]
theorem over_z2 {x x2 y y2 : AV} {cs : List AV} : over (x :: x2 :: cs) 0 [y, y2] = y :: y2 :: cs := by simp [over]
theorem over_s {x : AV} {cs new : List AV} {k : Nat} : over (x :: cs) (k + 1) new = x :: over cs k new := by simp [over, Nat.add_right_comm]
attribute [push_cast] rep_1 fillA_nil fillA_ci fillA_cb fillA_cs fillA_cn fillA_csl fillA_cro fillA_ca over_z1 over_z2 over_s
end Go.Proofs.YtbkcenkfecndjaaGreatDoor.M
