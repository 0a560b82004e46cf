/-
  slices.SortFunc at a slice of the call's own, of structs: a call of the machine.
-/
import Derived.Test.YtjfgmimgmapeeaaGreatM21
import Derived.Shelf.SlSortCmp.NoneTotal
namespace Go.Proofs.YtjfgmimgmapeeaaGreat.M
open Go Go.RowKit
set_option linter.unusedVariables false
set_option linter.unusedSimpArgs false
/-- A call that reads alone: new blocks and draws. -/
theorem Fn.grows {P : Program} {f : FuncId} {args : List AV} {R : AV → Prop} (hf : Fn P f args R) {w : World} {cargs : Array Value} (hgl : GL (fun B => B < w.heap.size) w) (ha : AR (fun B => B < w.heap.size) w [] args cargs) :
    Calls P f cargs w fun e w' => (∃ v r S' μ', e = .returned v ∧ R r ∧ VR S' w' μ' r v) ∧ ∃ q os, w' = Sort.grow (w.drewN q) os := by
  have hr : HR (fun B => B < w.heap.size) w [] [] := ⟨rfl, fun b o hb => by simp at hb, fun b hb => by simp at hb, fun b b' m m' hm => by simp at hm, fun b m hm => by simp at hm, fun B h => h, hgl⟩
  refine ((hf []).2 _ w [] cargs hr ha).mono ?_
  rintro e w' ⟨v, x, h', S', μ', rfl, ⟨hR, _⟩, hv, hr', hs⟩
  refine ⟨⟨v, x, S', μ', rfl, hR, hv⟩, w'.drawn - w.drawn, w'.heap.extract w.heap.size w'.heap.size, ?_⟩
  have h1 : w'.heap = w.heap ++ w'.heap.extract w.heap.size w'.heap.size := by
    apply Array.ext_getElem?
    intro k
    by_cases hk : k < w.heap.size
    · rw [Array.getElem?_append_left hk]
      exact hs.blk k hk
    · rw [Array.getElem?_append_right (by omega), Array.getElem?_extract]
      by_cases hk2 : k < w'.heap.size
      · rw [if_pos (by omega)]
        congr 1
        omega
      · rw [if_neg (by omega)]
        simp
        omega
  have h2 := hs.os
  have h3 := hs.output
  have h4 := hs.tape
  have h5 := hs.drawn
  have h6 : w.drawn + (w'.drawn - w.drawn) = w'.drawn := by omega
  unfold Sort.grow World.drewN
  obtain ⟨heap', tape', drawn', os', output'⟩ := w'
  simp only at h1 h2 h3 h4 h5 h6 ⊢
  rw [h6]
  subst h2 h3 h4
  simp only [World.mk.injEq, and_true]
  exact h1

/-- The cells of a row's element. -/
def rowAt (cs : List AV) (sz i : Nat) : List AV := (cs.drop (i * sz)).take sz
theorem rowAt_get {cs : List AV} {sz n i j : Nat} (hl : cs.length = n * sz) (hi : i < n) (hj : j < sz) : (rowAt cs sz i)[j]? = cs[i * sz + j]? := by
  unfold rowAt
  rw [List.getElem?_take, if_pos hj, List.getElem?_drop]
theorem rowAt_len {cs : List AV} {sz n i : Nat} (hl : cs.length = n * sz) (hi : i < n) : (rowAt cs sz i).length = sz := by
  unfold rowAt
  have : (i + 1) * sz ≤ n * sz := Nat.mul_le_mul_right _ hi
  rw [Nat.succ_mul] at this
  rw [List.length_take, List.length_drop]
  omega
theorem idx_lt {i j n sz : Nat} (hi : i < n) (hj : j < sz) : i * sz + j < n * sz := by
  have : (i + 1) * sz ≤ n * sz := Nat.mul_le_mul_right _ hi
  rw [Nat.succ_mul] at this
  omega

theorem Call.sortK {P : Program} {ρ : Go.Shelf.Ren} (L : SlLaysF0.n6 P ρ) {sz : Nat} (hsz : 0 < sz) (aE : ∀ w, (isAgg (ρ.t 24)).run P w = .ok true w) (zE : ∀ w, (Go.sizeOf (ρ.t 24)).run P w = .ok sz w) {g : Nat} (hf6 : CanEnter P (ρ.f 6))
    {h : H} {b n : Nat} {cs : List AV} (hc : h.cells b = some cs) (hl : cs.length = n * sz) (hn : n ≤ 1000000) {ts : Nat → AV} (hvw : ∀ i, i < n → Vw (filt (fun k => !(k == b)) h) 0 (.agg (rowAt cs sz i)) (ts i))
    {key : Nat → Int} (hcmp : ∀ i j, i < n → j < n → Fn P g [ts i, ts j] (· = .int .i64 (key i - key j))) :
    Call P (ρ.f 6) [.sl b 0 sz n n, .fn g []] h (fun b' => b' = b) (fun x h' => x = .tup [] ∧ ∃ l : List Nat, l.Perm (List.range n) ∧ h' = wr h b (l.flatMap (rowAt cs sz))) := by
  refine ⟨hf6, fun S w μ cargs hr ha => ?_⟩
  obtain ⟨v1, v2, rfl, hv1, hv2⟩ := ar_2 ha
  obtain ⟨m, arr, t, hm, hg, hmn, hlen, hone, hvs⟩ := hr.cells hc
  obtain ⟨A, cap, rfl, hlk, hkc, hmx, hB, hsp, hof, hcn, hz⟩ := hv1.sl_ hm
  obtain ⟨vs2, rfl, hvl, _⟩ := hv2.fn_
  have hvs2 : vs2 = #[] := Array.eq_empty_of_size_eq_zero (by simpa using hvl)
  subst hvs2
  obtain ⟨B, o, sp⟩ := A
  simp only at hB hsp hof hcn
  subst hB hsp
  by_cases hn0 : n = 0
  · subst hn0
    refine (AnyF.slices_SortFunc_none (P := P) (ρ := ρ) L (some ⟨m.B, o, none⟩) cap _ w).mono ?_
    rintro e w' ⟨rfl, rfl⟩
    have hcs : cs = [] := List.eq_nil_of_length_eq_zero (by simpa using hl)
    subst hcs
    refine ⟨_, .tup [], h, S, μ, rfl, ⟨rfl, [], by simp, ?_⟩, .tup (by rfl) (fun i x hx => by simp at hx), hr, Step.refl _ _ _ _⟩
    unfold wr
    refine List.ext_getElem? fun k => ?_
    by_cases hk : b = k
    · subst hk
      rw [List.getElem?_set_self (cells_lt hc)]
      rw [cells_eq] at hc
      cases hh : h[b]? with
      | none => rw [hh] at hc; cases hc
      | some o =>
        rw [hh] at hc
        cases o with
        | none => cases hc
        | some o =>
          cases o with
          | cells c2 => injection hc with hc; subst hc; rfl
          | map es => cases hc
    · rw [List.getElem?_set_ne hk]
  obtain ⟨n', rfl⟩ : ∃ n', n = n' + 1 := ⟨n - 1, by omega⟩
  have hoff : o = m.o := by rw [hof (by omega)]; omega
  subst hoff
  have hml := mu_lt hm
  let enc : Fin (n' + 1) → List Value := fun i => (List.range sz).map fun j => arr.getD (m.o + (i.val * sz + j)) undef
  have hk : ∀ x, (enc x).length = sz := fun x => by simp [enc]
  have henc : ∀ (x : Fin (n' + 1)) (j : Nat), j < sz → (enc x)[j]? = some (arr.getD (m.o + (x.val * sz + j)) undef) := fun x j hj => by simp [enc, hj]
  have hcsget : ∀ (i : Fin (n' + 1)) (j : Nat), j < sz → ∃ y, cs[i.val * sz + j]? = some y ∧ VR S w μ y (arr.getD (m.o + (i.val * sz + j)) undef) ∧ one y = true := fun i j hj => by
    have hlt := idx_lt i.isLt hj
    have hy := List.getElem?_eq_getElem (l := cs) (i := i.val * sz + j) (by omega)
    exact ⟨_, hy, hvs _ _ hy, hone _ _ hy⟩
  have h1 : ∀ x, ∀ v ∈ enc x, v.oneCell' = true := fun x v hv => by
    obtain ⟨j, hj, rfl⟩ := List.mem_map.1 hv
    obtain ⟨y, _, hy, ho⟩ := hcsget x j (List.mem_range.1 hj)
    exact hy.oneCell ho
  let d : Array (Fin (n' + 1)) := Array.ofFn id
  have hds : d.size = n' + 1 := by simp [d]
  let cf : Fin (n' + 1) → Fin (n' + 1) → Int := fun i j => key i.val - key j.val
  have hO : Sort.SWO (ltOf cf) := by
    refine ⟨fun x => ?_, fun x y z h1 h2 => ?_, fun x y z h1 h2 => ?_⟩
    · simp [ltOf, cf]
    · simp only [ltOf, cf, decide_eq_true_eq] at h1 h2 ⊢
      omega
    · simp only [ltOf, cf, decide_eq_false_iff_not] at h1 h2 ⊢
      omega
  have hget! : ∀ (i : Nat) (hi : i < n' + 1), d[i]! = ⟨i, hi⟩ := fun i hi => by
    rw [getElem!_pos d i (by omega)]
    simp [d]
  have hH : Sort.HoldsK enc sz w m.B m.o d := by
    intro j hj
    rw [Sort.size_flatK, hds] at hj
    have hdiv : j / sz < n' + 1 := by
      rw [Nat.div_lt_iff_lt_mul hsz]
      exact hj
    have hmod : j % sz < sz := Nat.mod_lt _ hsz
    have hdm : j / sz * sz + j % sz = j := Nat.div_add_mod' j sz
    rw [Sort.get_flatK _ _ _ _ (by rw [hds]; exact hj), hget! _ hdiv]
    refine ⟨?_, ?_⟩
    · rw [cell_of hg]
      have e1 := henc ⟨j / sz, hdiv⟩ _ hmod
      rw [List.getElem!_eq_getElem?_getD, e1]
      simp only [Option.getD_some, id, hdm]
      rw [Array.getD_eq_getD_getElem?, Array.getElem?_eq_getElem (by omega)]
      rfl
    · simp [World.frozen?, hg]
  have hblk : m.B < w.heap.size := hr.lt_of hm
  have hrf := hr.filt (fun k => !(k == b))
  have hmf : ∀ (b' : Nat) (m' : MI), (filt (fun k => !(k == b)) μ)[b']? = some (some m') → m'.B ≠ m.B := fun b' m' hm' he => by
    obtain ⟨q1, q2⟩ := filt_some hm'
    have := hr.inj b' b m' m q2 hm he
    subst this
    simp at q1
  have hkept : ∀ B, Kept S (filt (fun k => !(k == b)) μ) 0 B → B ≠ m.B ∧ B < w.heap.size := fun B hB => by
    refine ⟨?_, kept_lt hrf B hB⟩
    rcases hB with hB | ⟨b', m', _, hm', rfl⟩
    · exact fun he => hr.out b m hm (he ▸ hB)
    · exact hmf b' m' hm'
  have hother : ∀ (q : Nat) (os : Array Obj) (dk : Array (Fin (n' + 1))) (B : Nat), B ≠ m.B → B < w.heap.size → (sortWorldK enc sz w m.B m.o q dk os).heap[B]? = w.heap[B]? := fun q os dk B hne hlt => by
    show ((w.heap.modify m.B (Sort.onCells _)) ++ os)[B]? = _
    rw [Array.getElem?_append_left (by simpa using hlt), Array.getElem?_modify, if_neg (Ne.symm hne)]
  have hCmp : CmpLays P g #[] enc sz cf m.B m.o d.size w := by
    intro q os dk hdk x y
    have hval : ∀ x : Fin (n' + 1), VR (fun B => B < (sortWorldK enc sz w m.B m.o q dk os).heap.size) (sortWorldK enc sz w m.B m.o q dk os) [] (ts x.val) (.agg (enc x).toArray) := fun x => by
      have hx : VR S w (filt (fun k => !(k == b)) μ) (.agg (rowAt cs sz x.val)) (.agg (enc x).toArray) := by
        refine VR.fwd (Fwd.filt (S := S) (w := w) (μ := μ) fun k => !(k == b)) (.agg (by rw [rowAt_len hl x.isLt]; simp [enc]) fun i y hy => ?_)
        have hi : i < sz := by
          have := (List.getElem?_eq_some_iff.1 hy).1
          rwa [rowAt_len hl x.isLt] at this
        rw [rowAt_get hl x.isLt hi] at hy
        have := hvs _ _ hy
        rw [Array.getD_eq_getD_getElem?]
        simp only [List.getElem?_toArray, henc x i hi, Option.getD_some]
        exact this
      refine ((hvw x.val x.isLt).sound hrf [] hx).fwd ⟨fun B hB => ?_, fun B hB => hother _ _ _ _ (hkept B hB).1 (hkept B hB).2, Nat.le_refl _, fun b hb => by simp at hb⟩
      exact Nat.lt_of_lt_of_le (hkept B hB).2 (size_sortWorldK_c enc sz w m.B m.o q dk os)
    refine ((hcmp x.val y.val x.isLt y.isLt).grows (w := sortWorldK enc sz w m.B m.o q dk os) ?_ ⟨by rfl, fun i z hz => ?_⟩).mono ?_
    · refine hr.gl.fwd (fun B hB => Nat.lt_of_lt_of_le (hr.lt B hB) (size_sortWorldK_c enc sz w m.B m.o q dk os)) (fun B hB => hother _ _ _ _ (fun he => hr.out b m hm (he ▸ hB)) (hr.lt B hB))
    · rcases i with _ | _ | i
      · simp at hz
        subst hz
        exact hval x
      · simp at hz
        subst hz
        exact hval y
      · simp at hz
    · rintro e w' ⟨⟨v, r, S', μ', rfl, rfl, hv⟩, hw⟩
      exact ⟨by rw [hv.int_], hw⟩
  have eg : ∀ args w, (callFunc g args).run P w = .ok (.enter g args) w := fun args w' => by
    obtain ⟨fn, q1, q2, q3⟩ := (hcmp 0 0 (by omega) (by omega) []).1
    have q4 : fn.name ≠ "runtime.NumGoroutine" := by simpa using q3
    cases hb : fn.body with
    | none => rw [hb] at q2; cases q2
    | some c => simp [callFunc, q1, q4, hb, mark]
  have hmain := AnyQ.slices_SortFunc L sz aE zE enc hk h1 cf hO g #[] m.B m.o cap d w eg hCmp hH hblk (by omega)
  rw [hds] at hmain
  refine hmain.mono ?_
  rintro e w' ⟨rfl, d', q, os, ⟨p1, _, p3⟩, _, rfl⟩
  rw [hds] at p1
  have hperm : (d'.toList.map Fin.val).Perm (List.range (n' + 1)) := by
    have e0 : ∀ (k : Nat) (a : Array (Fin (n' + 1))), a.size = k → (a.extract 0 k).toList = a.toList := fun k a hk => by
      subst hk
      simp
    rw [e0 _ d' p1, e0 _ d hds] at p3
    have e3 : d.toList.map Fin.val = List.range (n' + 1) := by
      apply List.ext_getElem?
      intro k
      rw [List.getElem?_map]
      by_cases hk : k < n' + 1
      · have : d.toList[k]? = some ⟨k, hk⟩ := by
          rw [Array.getElem?_toList, Array.getElem?_eq_getElem (by omega)]
          simp [d]
        rw [this, Option.map_some, List.getElem?_range hk]
      · rw [List.getElem?_eq_none (by simp [hds]; omega), List.getElem?_eq_none (by simp; omega)]
        rfl
    rw [← e3]
    exact p3.map _
  have hdl : (d'.toList.map Fin.val).length = n' + 1 := by simp [p1]
  have hlt' : ∀ i ∈ d'.toList.map Fin.val, i < n' + 1 := fun i hi => List.mem_range.1 (hperm.mem_iff.1 hi)
  -- the world
  have hr1 := hr.drew (w.drawn + q)
  let w1 : World := { w with drawn := w.drawn + q }
  have hs1 : Step (fun b' => b' = b) S w μ S w1 μ := Step.drew _ S w μ (w.drawn + q)
  let w2 : World := Sort.putRowK enc sz (Sort.ahead w q) m.B m.o d'
  have hw2 : ∀ B, B ≠ m.B → w2.heap[B]? = w1.heap[B]? := fun B hne => by
    show (w.heap.modify m.B (Sort.onCells _))[B]? = _
    rw [Array.getElem?_modify, if_neg (Ne.symm hne)]
  have hs2 : Step (fun b' => b' = b) S w1 μ S w2 μ := write_world hr1 hm rfl hw2 (by show (w.heap.modify m.B (Sort.onCells _)).size = w.heap.size; simp) rfl rfl ⟨rfl, Nat.le_refl _⟩
  have hg2 : w2.heap[m.B]? = some (.cells (Sort.putCells id m.o (Sort.flatK enc sz d') arr) t (0, 0)) := by
    show (w.heap.modify m.B (Sort.onCells _))[m.B]? = _
    rw [Array.getElem?_modify, if_pos rfl, hg]
    rfl
  have hFs : (Sort.flatK enc sz d').size = (n' + 1) * sz := by rw [Sort.size_flatK, p1]
  have hfl : ∀ i ∈ d'.toList.map Fin.val, (rowAt cs sz i).length = sz := fun i hi => rowAt_len hl (hlt' i hi)
  have hcl : ((d'.toList.map Fin.val).flatMap (rowAt cs sz)).length = (n' + 1) * sz := by
    have : ∀ l : List Nat, (∀ i ∈ l, (rowAt cs sz i).length = sz) → (l.flatMap (rowAt cs sz)).length = l.length * sz := by
      intro l
      induction l with
      | nil => simp
      | cons a l ih =>
        intro hh
        rw [List.flatMap_cons, List.length_append, hh a (by simp), ih fun i hi => hh i (List.mem_cons_of_mem _ hi), List.length_cons, Nat.succ_mul]
        omega
    rw [this _ hfl, hdl]
  have hcget : ∀ (l : List Nat), (∀ i ∈ l, (rowAt cs sz i).length = sz) → ∀ (k : Nat) (x : AV), (l.flatMap (rowAt cs sz))[k]? = some x → k / sz < l.length ∧ (rowAt cs sz (l.getD (k / sz) 0))[k % sz]? = some x := by
    intro l
    induction l with
    | nil => intro _ k x hx; simp at hx
    | cons a l ih =>
      intro hh k x hx
      rw [List.flatMap_cons] at hx
      have ha := hh a (by simp)
      by_cases hk : k < sz
      · rw [List.getElem?_append_left (by omega)] at hx
        rw [Nat.div_eq_of_lt hk, Nat.mod_eq_of_lt hk]
        exact ⟨by simp, by simpa using hx⟩
      · rw [List.getElem?_append_right (by omega), ha] at hx
        obtain ⟨g1, g2⟩ := ih (fun i hi => hh i (List.mem_cons_of_mem _ hi)) _ x hx
        have e1 : k / sz = (k - sz) / sz + 1 := by
          rw [← Nat.add_div_right _ hsz]
          congr 1
          omega
        have e2 : k % sz = (k - sz) % sz := by
          rw [← Nat.add_mod_right (k - sz) sz]
          congr 1
          omega
        rw [e1, e2]
        exact ⟨by simp; omega, by simpa using g2⟩
  have hor : OR S w2 μ m (.cells ((d'.toList.map Fin.val).flatMap (rowAt cs sz))) := by
    have key : ∀ (i : Nat) (x : AV), ((d'.toList.map Fin.val).flatMap (rowAt cs sz))[i]? = some x → one x = true ∧ VR S w2 μ x ((Sort.putCells id m.o (Sort.flatK enc sz d') arr).getD (m.o + i) undef) := by
      intro i x hx
      have hi : i < (n' + 1) * sz := by
        rw [← hcl]
        exact (List.getElem?_eq_some_iff.1 hx).1
      obtain ⟨g1, g2⟩ := hcget _ hfl i x hx
      have hmod : i % sz < sz := Nat.mod_lt _ hsz
      have hdiv : i / sz < d'.size := by
        rw [p1]
        rw [hdl] at g1
        exact g1
      have hdv : (d'.toList.map Fin.val).getD (i / sz) 0 = (d'[i / sz]!).val := by
        rw [getElem!_pos d' _ hdiv]
        simp [hdiv]
      rw [hdv, rowAt_get hl (d'[i / sz]!).isLt hmod] at g2
      refine ⟨hone _ _ g2, ?_⟩
      have hval : (Sort.putCells id m.o (Sort.flatK enc sz d') arr).getD (m.o + i) undef = arr.getD (m.o + ((d'[i / sz]!).val * sz + i % sz)) undef := by
        rw [Array.getD_eq_getD_getElem?]
        unfold Sort.putCells
        rw [Array.getElem?_mapIdx, Array.getElem?_eq_getElem (by omega), Option.map_some, if_pos ⟨by omega, by omega⟩]
        simp only [Option.getD_some, id]
        rw [show m.o + i - m.o = i by omega, Sort.get_flatK _ _ _ _ (by rw [p1]; exact hi), List.getElem!_eq_getElem?_getD, henc _ _ hmod]
        rfl
      rw [hval]
      exact ((hvs _ _ g2).fwd hs1.toFwd).fwd hs2.toFwd
    exact .cells hg2 (by simp [Sort.putCells, hmn]) (by rw [hcl]; simp [Sort.putCells]; omega) (fun i x hx => (key i x hx).1) (fun i x hx => (key i x hx).2)
  have hr2 : HR S w2 μ (wr h b ((d'.toList.map Fin.val).flatMap (rowAt cs sz))) := hr1.wrote hm hs2 hw2 hor
  obtain ⟨hr3, hs3⟩ := grow_ok (pm := fun b' => b' = b) hr2 0 os
  have e3 : Sort.grow (w2.drewN 0) os = sortWorldK enc sz w m.B m.o q d' os := rfl
  rw [e3] at hr3 hs3
  exact ⟨_, .tup [], _, S, μ, rfl, ⟨rfl, _, hperm, rfl⟩, .tup (by rfl) (fun i x hx => by simp at hx), hr3, (hs1.trans hs2).trans hs3⟩
theorem Call.sortNil {P : Program} {ρ : Go.Shelf.Ren} (L : SlLaysF0.n6 P ρ) {g : Nat} (hf6 : CanEnter P (ρ.f 6)) {h : H} {pm : Nat → Prop} {Q : AV → H → Prop} (hQ : Q (.tup []) h) : Call P (ρ.f 6) [.nils, .fn g []] h pm Q := by
  refine ⟨hf6, fun S w μ cargs hr ha => ?_⟩
  obtain ⟨v1, v2, rfl, hv1, hv2⟩ := ar_2 ha
  rw [hv1.nils_]
  refine (AnyF.slices_SortFunc_none (P := P) (ρ := ρ) L none 0 v2 w).mono ?_
  rintro e w' ⟨rfl, rfl⟩
  exact ⟨_, .tup [], h, S, μ, rfl, hQ, .tup (by rfl) (fun i x hx => by simp at hx), hr, Step.refl _ _ _ _⟩
end Go.Proofs.YtjfgmimgmapeeaaGreat.M
