/-
  Library functions that rewrite a slice of strings of the call's own (slices.Sort, slices.SortFunc, slices.Compact): calls of the machine.
-/
import Derived.Test.YtdkgoaiodjokpaaGreatM21
import Derived.Test.YtdkgoaiodjokpaaGreatM22
import Derived.Shelf.SlSortCmp.Whole1
import Derived.Shelf.SortM.Plain
import Derived.Shelf.SortM.SortNone
import Derived.Shelf.SlicesG.CompactS
namespace Go.Proofs.YtdkgoaiodjokpaaGreat.M
open Go Go.RowKit
set_option linter.unusedVariables false
set_option linter.unusedSimpArgs false
/-- A call that reads alone: new blocks and draws. -/
theorem Fn.growsS {P : Program} {f : FuncId} {args : List AV} {R : AV → Prop} (hf : Fn P f args R) {w : World} {cargs : Array Value} (hgl : GL (fun B => B < w.heap.size) w) (ha : AR (fun B => B < w.heap.size) w [] args cargs) :
    Calls P f cargs w fun e w' => (∃ v r S' μ', e = .returned v ∧ R r ∧ VR S' w' μ' r v) ∧ ∃ q os, w' = Sort.grow (w.drewN q) os := by
  have hr : HR (fun B => B < w.heap.size) w [] [] := ⟨rfl, fun b o hb => by simp at hb, fun b hb => by simp at hb, fun b b' m m' hm => by simp at hm, fun b m hm => by simp at hm, fun B h => h, hgl⟩
  refine ((hf []).2 _ w [] cargs hr ha).mono ?_
  rintro e w' ⟨v, x, h', S', μ', rfl, ⟨hR, _⟩, hv, hr', hs⟩
  refine ⟨⟨v, x, S', μ', rfl, hR, hv⟩, w'.drawn - w.drawn, w'.heap.extract w.heap.size w'.heap.size, ?_⟩
  have h1 : w'.heap = w.heap ++ w'.heap.extract w.heap.size w'.heap.size := by
    apply Array.ext_getElem?
    intro k
    by_cases hk : k < w.heap.size
    · rw [Array.getElem?_append_left hk]
      exact hs.blk k hk
    · rw [Array.getElem?_append_right (by omega), Array.getElem?_extract]
      by_cases hk2 : k < w'.heap.size
      · rw [if_pos (by omega)]
        congr 1
        omega
      · rw [if_neg (by omega)]
        simp
        omega
  have h2 := hs.os
  have h3 := hs.output
  have h4 := hs.tape
  have h5 := hs.drawn trivial
  have h6 : w.drawn + (w'.drawn - w.drawn) = w'.drawn := by omega
  unfold Sort.grow World.drewN
  obtain ⟨heap', tape', drawn', os', output'⟩ := w'
  simp only at h1 h2 h3 h4 h5 h6 ⊢
  rw [h6]
  subst h2 h3 h4
  simp only [World.mk.injEq, and_true]
  exact h1
/-- A function from outside that rewrites its slice of strings. -/
theorem Call.ofRow {P : Program} {f : FuncId} (hf : CanEnter P f) {ys : List AV} {vs : List Value} (hyl : ys.length = vs.length) (hys : ∀ S w μ (i : Nat) (y : AV) (v : Value), ys[i]? = some y → VR S w μ y v → vs[i]? = some v)
    {h : H} {b n : Nat} {l : List Str} (hc : h.cells b = some (l.map .str)) (hl : l.length = n) (hn0 : 0 < n) (hn : n ≤ 1000000) {R : AV → List Str → Prop}
    (hk : ∀ (S : Nat → Prop) (w : World) (B o cap : Nat), GL S w → (∀ B', S B' → B' ≠ B ∧ B' < w.heap.size) → Sort.Holds encStr w B o l.toArray → B < w.heap.size → n ≤ cap →
      Calls P f (#[.slice (some ⟨B, o, none⟩) n cap] ++ vs.toArray) w fun e w' => ∃ (l' : List Str) (q : Nat) (os : Array Obj), (l'.length = n ∧ ∀ s ∈ l', s.length ≤ 9223372036854775807) ∧ w' = Sort.grow (Sort.putRow encStr (Sort.ahead w q) B o l'.toArray) os ∧
        ((e = .returned (.tuple #[]) ∧ R (.tup []) l') ∨ ∃ k, k ≤ n ∧ e = .returned (.slice (some ⟨B, o, none⟩) k cap) ∧ R (.sl b 0 1 k n) l')) :
    Call P f (.sl b 0 1 n n :: ys) h (fun b' => b' = b) (fun x h' => ∃ l', R x l' ∧ l'.length = n ∧ h' = wr h b (l'.map .str)) := by
  refine ⟨hf, fun S w μ cargs hr ha => ?_⟩
  obtain ⟨ha1, ha2⟩ := ha
  have hv1 := ha2 0 _ (by rfl)
  obtain ⟨m, arr, t, hm, hg, hmn, hlen, hone, hvs⟩ := hr.cells hc
  obtain ⟨A, cap, hA0, hlk, hkc, hmx, hB, hsp, hof, hcn, hz⟩ := hv1.sl_ hm
  obtain ⟨B, o, sp⟩ := A
  simp only at hB hsp hof hcn
  subst hB hsp
  have hoff : o = m.o := by rw [hof (by omega)]; omega
  subst hoff
  rw [List.length_map, hl] at hlen
  have hcargs : cargs = #[.slice (some ⟨m.B, m.o, none⟩) n cap] ++ vs.toArray := by
    apply Array.ext_getElem?
    intro i
    rcases i with _ | i
    · have h0 : 0 < cargs.size := by rw [ha1]; simp
      rw [Array.getD_eq_getD_getElem?, Array.getElem?_eq_getElem h0, Option.getD_some] at hA0
      rw [Array.getElem?_eq_getElem h0, hA0, Array.getElem?_append_left (by simp)]
      rfl
    · rw [Array.getElem?_append_right (by simp)]
      simp only [List.size_toArray, List.length_cons, List.length_nil, Nat.zero_add, Nat.add_sub_cancel, List.getElem?_toArray]
      by_cases hi : i < ys.length
      · have hi1 : i + 1 < cargs.size := by rw [ha1]; simpa using hi
        have hy := ha2 (i + 1) ys[i] (by rw [List.getElem?_cons_succ]; exact List.getElem?_eq_getElem hi)
        have := hys _ _ _ i _ _ (List.getElem?_eq_getElem hi) hy
        rw [this, Array.getElem?_eq_getElem hi1, Array.getD_eq_getD_getElem?, Array.getElem?_eq_getElem hi1]
        rfl
      · rw [Array.getElem?_eq_none (by rw [ha1]; simp; omega), List.getElem?_eq_none (by omega)]
  subst hcargs
  have hcell : ∀ j (hj : j < n), arr.getD (m.o + j) undef = encStr (l.getD j []) ∧ (l.getD j []).length ≤ 9223372036854775807 := fun j hj => by
    have hg1 : (l.map AV.str)[j]? = some (.str (l.getD j [])) := by simp [show j < l.length by omega]
    have hv := hvs j _ hg1
    exact ⟨hv.str_, hv.strLen⟩
  have hH : Sort.Holds encStr w m.B m.o l.toArray := by
    intro j hj
    have hj2 : j < n := by simpa [hl] using hj
    refine ⟨?_, by simp [World.frozen?, hg]⟩
    rw [cell_of hg]
    have h5 := (hcell j hj2).1
    rw [Array.getD_eq_getD_getElem?, Array.getElem?_eq_getElem (by omega), Option.getD_some] at h5
    rw [Array.getElem?_eq_getElem (by omega), h5]
    congr 2
    rw [getElem!_pos l.toArray j hj]
    simp [show j < l.length by omega]
  have hblk : m.B < w.heap.size := hr.lt_of hm
  refine (hk S w m.B m.o cap hr.gl (fun B' hB' => ⟨fun he => hr.out b m hm (he ▸ hB'), hr.lt B' hB'⟩) hH hblk (by omega)).mono ?_
  rintro e w' ⟨l', q, os, ⟨hl', hl2⟩, rfl, hres⟩
  have hr1 := hr.drew (w.drawn + q)
  let w1 : World := { w with drawn := w.drawn + q }
  have hs1 : Step (fun b' => b' = b) S w μ S w1 μ := Step.drew _ S w μ (w.drawn + q)
  let w2 : World := Sort.putRow encStr (Sort.ahead w q) m.B m.o l'.toArray
  have hw2 : ∀ B, B ≠ m.B → w2.heap[B]? = w1.heap[B]? := fun B hne => by
    show (w.heap.modify m.B (Sort.onCells _))[B]? = _
    rw [Array.getElem?_modify, if_neg (Ne.symm hne)]
  have hs2 : Step (fun b' => b' = b) S w1 μ S w2 μ := write_world hr1 hm rfl hw2 (by show (w.heap.modify m.B (Sort.onCells _)).size = w.heap.size; simp) rfl rfl ⟨rfl, Nat.le_refl _⟩
  have hg2 : w2.heap[m.B]? = some (.cells (Sort.putCells encStr m.o l'.toArray arr) t (0, 0)) := by
    show (w.heap.modify m.B (Sort.onCells _))[m.B]? = _
    rw [Array.getElem?_modify, if_pos rfl, hg]
    rfl
  have hor : OR S w2 μ m (.cells (l'.map .str)) := by
    refine .cells hg2 (by simp [Sort.putCells, hmn]) (by simp [Sort.putCells, hl']; omega) (fun i x hx => ?_) (fun i x hx => ?_)
    · obtain ⟨s, _, rfl⟩ := List.mem_map.1 (List.mem_of_getElem? hx)
      rfl
    · have hi : i < l'.length := by
        have := (List.getElem?_eq_some_iff.1 hx).1
        simpa using this
      rw [List.getElem?_map, List.getElem?_eq_getElem hi, Option.map_some, Option.some.injEq] at hx
      subst hx
      have hval : (Sort.putCells encStr m.o l'.toArray arr).getD (m.o + i) undef = encStr l'[i] := by
        rw [Array.getD_eq_getD_getElem?]
        unfold Sort.putCells
        rw [Array.getElem?_mapIdx, Array.getElem?_eq_getElem (by omega), Option.map_some, if_pos ⟨by omega, by simp; omega⟩]
        simp only [Option.getD_some]
        rw [show m.o + i - m.o = i by omega, getElem!_pos l'.toArray i (by simpa using hi)]
        simp
      rw [hval]
      exact .str _ (hl2 _ (List.getElem_mem hi))
  have hr2 : HR S w2 μ (wr h b (l'.map .str)) := hr1.wrote hm hs2 hw2 hor
  obtain ⟨hr3, hs3⟩ := grow_ok (pm := fun b' => b' = b) hr2 0 os
  have e3 : Sort.grow (w2.drewN 0) os = Sort.grow (Sort.putRow encStr (Sort.ahead w q) m.B m.o l'.toArray) os := rfl
  rw [e3] at hr3 hs3
  have hst := (hs1.trans hs2).trans hs3
  rcases hres with ⟨rfl, hR⟩ | ⟨k, hk2, rfl, hR⟩
  · exact ⟨_, .tup [], _, S, μ, rfl, ⟨l', hR, hl', rfl⟩, .tup (by rfl) (fun i x hx => by simp at hx), hr3, hst⟩
  · refine ⟨_, .sl b 0 1 k n, _, S, μ, rfl, ⟨l', hR, hl', rfl⟩, .sl hm (by omega) hkc hmx rfl hz fun m' hm' => ?_, hr3, hst⟩
    injection hm' with hm'
    subst hm'
    exact ⟨rfl, fun _ => rfl, hcn⟩
/-- Strings that a machine can hold. -/
abbrev Str9 := { s : Str // s.length ≤ 9223372036854775807 }
instance : Inhabited Str9 := ⟨⟨[], by simp⟩⟩
def enc9 (s : Str9) : Value := encStr s.1
theorem putRow9 {w : World} {B o : Nat} {d : Array Str9} : Sort.putRow enc9 w B o d = Sort.putRow encStr w B o (d.map Subtype.val) := by
  unfold Sort.putRow
  congr 1
  funext c
  unfold Sort.putCells
  rw [Array.size_map]
  refine Array.ext (by simp) fun k h1 h2 => ?_
  simp only [Array.getElem_mapIdx]
  by_cases hk : o ≤ k ∧ k < o + d.size
  · rw [if_pos hk, if_pos hk, getElem!_pos d _ (by omega), getElem!_pos (d.map Subtype.val) _ (by simp; omega)]
    simp [enc9]
  · rw [if_neg hk, if_neg hk]
theorem attach9 : ∀ {l : List Str}, (∀ s ∈ l, s.length ≤ 9223372036854775807) → ∃ d : List Str9, d.map Subtype.val = l
  | [], _ => ⟨[], rfl⟩
  | s :: l, h => by
    obtain ⟨d, hd⟩ := attach9 (l := l) fun x hx => h x (List.mem_cons_of_mem _ hx)
    exact ⟨⟨s, h s (by simp)⟩ :: d, by simp [hd]⟩
/-- slices.SortFunc at strings. -/
theorem Call.sortS {P : Program} {ρ : Go.Shelf.Ren} (L : SlLaysF.n6 P ρ) {g : Nat} (hf6 : CanEnter P (ρ.f 6)) {h : H} {b n : Nat} {l : List Str} (hc : h.cells b = some (l.map .str)) (hl : l.length = n) (hn0 : 0 < n) (hn : n ≤ 1000000)
    {cf : Str → Str → Int} (hO : Sort.SWO (ltOf fun x y : Str9 => cf x.1 y.1)) (hcmp : ∀ x y : Str9, Fn P g [.str x.1, .str y.1] (· = .int .i64 (cf x.1 y.1))) (hls : ∀ s ∈ l, s.length ≤ 9223372036854775807) :
    Call P (ρ.f 6) [.sl b 0 1 n n, .fn g []] h (fun b' => b' = b) (fun x h' => ∃ l' : List Str, (x = .tup [] ∧ l'.Perm l ∧ l'.Pairwise fun x y => ¬ cf y x < 0) ∧ l'.length = n ∧ h' = wr h b (l'.map .str)) := by
  obtain ⟨dl, hdl⟩ := attach9 hls
  have hdn : dl.length = n := by rw [← hl, ← hdl, List.length_map]
  refine Call.ofRow (vs := [.func (.func g) #[] #[]]) hf6 rfl (fun S w μ i y v hy hv => ?_) hc hl hn0 hn fun S w B o cap hgl hS hH hB hcap => ?_
  · rcases i with _ | i
    · simp at hy
      subst hy
      obtain ⟨vs2, rfl, hvl, _⟩ := hv.fn_
      have : vs2 = #[] := Array.eq_empty_of_size_eq_zero (by simpa using hvl)
      subst this
      rfl
    · simp at hy
  have hH9 : Sort.Holds enc9 w B o dl.toArray := fun j hj => by
    have h1 := hH j (by simpa [hl, ← hdn] using hj)
    have e : enc9 dl.toArray[j]! = encStr l.toArray[j]! := by
      rw [getElem!_pos dl.toArray j hj, getElem!_pos l.toArray j (by simpa [hl, ← hdn] using hj)]
      simp [enc9, ← hdl]
    rw [e]
    exact h1
  have hsz : ∀ (q : Nat) (os : Array Obj) (dk : Array Str9), w.heap.size ≤ (sortWorld enc9 w B o q dk os).heap.size := fun q os dk => by
    show _ ≤ ((w.heap.modify B (Sort.onCells _)) ++ os).size
    simp
  have hoth : ∀ (q : Nat) (os : Array Obj) (dk : Array Str9) (B' : Nat), B' ≠ B → B' < w.heap.size → (sortWorld enc9 w B o q dk os).heap[B']? = w.heap[B']? := fun q os dk B' hne hlt => by
    show ((w.heap.modify B (Sort.onCells _)) ++ os)[B']? = _
    rw [Array.getElem?_append_left (by simpa using hlt), Array.getElem?_modify, if_neg (Ne.symm hne)]
  have hCmp : CmpLays1 P g #[] enc9 (fun x y : Str9 => cf x.1 y.1) B o dl.toArray.size w := by
    intro q os dk hdk x y
    refine ((hcmp x y).growsS (w := sortWorld enc9 w B o q dk os) ?_ ⟨by rfl, fun i z hz => ?_⟩).mono ?_
    · exact hgl.fwd (fun B' hB' => Nat.lt_of_lt_of_le (hS B' hB').2 (hsz q os dk)) (fun B' hB' => hoth _ _ _ _ (hS B' hB').1 (hS B' hB').2)
    · rcases i with _ | _ | i
      · simp at hz
        subst hz
        exact .str _ x.2
      · simp at hz
        subst hz
        exact .str _ y.2
      · simp at hz
    · rintro e w' ⟨⟨v, r, S', μ', rfl, rfl, hv⟩, hw⟩
      exact ⟨by rw [hv.int_], hw⟩
  have eg : ∀ args w, (callFunc g args).run P w = .ok (.enter g args) w := fun args w' => by
    obtain ⟨fn, q1, q2, q3⟩ := (hcmp ⟨[], by simp⟩ ⟨[], by simp⟩ []).1
    have q4 : fn.name ≠ "runtime.NumGoroutine" := by simpa using q3
    cases hb : fn.body with
    | none => rw [hb] at q2; cases q2
    | some c => simp [callFunc, q1, q4, hb, mark]
  have hmain := Any.slices_SortFunc L enc9 (fun _ => rfl) (fun x y : Str9 => cf x.1 y.1) hO g #[] B o cap dl.toArray w eg hCmp hH9 hB (by simp; omega)
  have hds : dl.toArray.size = n := by simpa using hdn
  rw [hds] at hmain
  refine hmain.mono ?_
  rintro e w' ⟨rfl, d', q, os, ⟨p1, _, p3⟩, p4, rfl⟩
  rw [hds] at p1
  have e0 : ∀ (k : Nat) (a : Array Str9), a.size = k → (a.extract 0 k).toList = a.toList := fun k a hk => by
    subst hk
    simp
  rw [e0 _ d' p1, e0 _ dl.toArray hds] at p3
  refine ⟨d'.toList.map Subtype.val, q, os, ⟨by simpa using p1, fun s hs => ?_⟩, ?_, .inl ⟨rfl, rfl, ?_, ?_⟩⟩
  · obtain ⟨x, _, rfl⟩ := List.mem_map.1 hs
    exact x.2
  · unfold sortWorld
    rw [putRow9]
    have e5 : d'.map Subtype.val = (d'.toList.map Subtype.val).toArray := by rw [← Array.toList_map, Array.toArray_toList]
    rw [e5]
  · rw [← hdl]
    exact p3.map _
  · rw [List.pairwise_map, List.pairwise_iff_getElem]
    intro i j hi hj hij
    have h1 := p4 i j (Nat.zero_le _) hij (by simpa [p1] using hj)
    rw [getElem!_pos d' j (by simpa using hj), getElem!_pos d' i (by simpa using hi)] at h1
    simpa [ltOf] using h1
theorem strLe {l : List Str} : (l.mergeSort fun x y => decide (x ≤ y)).Pairwise fun x y => Op.bytesLess y x = false := by
  have h := List.pairwise_mergeSort (le := fun x y : Str => decide (x ≤ y)) (fun a b c h1 h2 => by
    simp only [decide_eq_true_eq] at h1 h2 ⊢
    exact List.le_trans h1 h2) (fun a b => by
    simp only [Bool.or_eq_true, decide_eq_true_eq]
    exact List.le_total a b) l
  refine h.imp fun {x y} h => ?_
  simp only [decide_eq_true_eq] at h
  rw [bytesLess_eq, decide_eq_false_iff_not]
  exact List.not_lt.2 h
/-- slices.Sort at strings. -/
theorem Call.sortStr {P : Program} {ρ : Go.Shelf.Ren} (L : SlLaysM.n6 P ρ) (hf6 : CanEnter P (ρ.f 6)) {h : H} {b n : Nat} {l : List Str} (hc : h.cells b = some (l.map .str)) (hl : l.length = n) (hn : n ≤ 1000000) (hls : ∀ s ∈ l, s.length ≤ 9223372036854775807) :
    Call P (ρ.f 6) [.sl b 0 1 n n] h (fun b' => b' = b) (fun x h' => ∃ l' : List Str, (x = .tup [] ∧ l'.Perm l ∧ l'.Pairwise fun x y => Op.bytesLess y x = false) ∧ l'.length = n ∧ h' = wr h b (l'.map .str)) := by
  have hp := List.mergeSort_perm l fun x y => decide (x ≤ y)
  by_cases hn0 : n = 0
  · have hl0 : l = [] := List.eq_nil_of_length_eq_zero (by omega)
    subst hn0 hl0
    refine ⟨hf6, fun S w μ cargs hr ha => ?_⟩
    obtain ⟨v1, rfl, hv1⟩ := ar_1 ha
    obtain ⟨A, cap, om, rfl, _, _, _, _, _, _, _⟩ := hv1.sl0
    refine (AnyM.slices_Sort_string_none (P := P) (ρ := ρ) L (some A) cap w).mono ?_
    rintro e w' ⟨rfl, rfl⟩
    refine ⟨_, .tup [], h, S, μ, rfl, ⟨[], ⟨rfl, .refl _, by simp⟩, rfl, ?_⟩, .tup (by rfl) (fun i x hx => by simp at hx), hr, Step.refl _ _ _ _⟩
    unfold wr
    refine List.ext_getElem? fun k => ?_
    by_cases hk : b = k
    · subst hk
      rw [List.getElem?_set_self (cells_lt hc)]
      rw [cells_eq] at hc
      cases hh : h[b]? with
      | none => rw [hh] at hc; cases hc
      | some o =>
        rw [hh] at hc
        cases o with
        | none => cases hc
        | some o =>
          cases o with
          | cells c2 => injection hc with hc; subst hc; rfl
          | map es => cases hc
    · rw [List.getElem?_set_ne hk]
  · refine (Call.ofRow (R := fun x l' => x = .tup [] ∧ l'.Perm l ∧ l'.Pairwise fun x y => Op.bytesLess y x = false) (ys := []) (vs := []) hf6 rfl (fun S w μ i y v hy hv => by simp at hy) hc hl (by omega) hn fun S w B o cap hgl hS hH hB hcap => ?_)
    have h := AnyM.slices_Sort_string L B o cap l w hH hB (by omega)
    rw [hl] at h
    refine h.mono ?_
    rintro e w' ⟨rfl, q, os, rfl⟩
    exact ⟨_, q, os, ⟨by rw [hp.length_eq, hl], fun s hs => hls s (hp.mem_iff.1 hs)⟩, rfl, .inl ⟨rfl, rfl, hp, strLe⟩⟩
/-- slices.Compact at strings. -/
theorem Call.compactStr {P : Program} {ρ : Go.Shelf.Ren} (L : SlLaysN.n44 P ρ) (hf : CanEnter P (ρ.f 44)) {h : H} {b n : Nat} {l : List Str} (hc : h.cells b = some (l.map .str)) (hl : l.length = n) (hn0 : 0 < n) (hn : n ≤ 1000000) (hls : ∀ s ∈ l, s.length ≤ 9223372036854775807) :
    Call P (ρ.f 44) [.sl b 0 1 n n] h (fun b' => b' = b) (fun x h' => x = .sl b 0 1 (Lib.compact l).length n ∧ (Lib.compact l).length ≤ n ∧ h' = wr h b ((Lib.compact l ++ List.replicate (n - (Lib.compact l).length) []).map .str)) := by
  have hle : (Lib.compact l).length ≤ l.length := by
    unfold Lib.compact Lib.compactUpTo
    rw [List.length_map]
    exact Nat.le_trans (List.length_filter_le _ _) (by simp)
  have hsub : ∀ s ∈ Lib.compact l, s ∈ l := fun s hs => by
    unfold Lib.compact Lib.compactUpTo at hs
    obtain ⟨j, hj, rfl⟩ := List.mem_map.1 hs
    have hj2 := List.mem_range.1 (List.mem_filter.1 hj).1
    rw [getElem!_pos l.toArray j (by simpa using hj2)]
    simp
  refine (Call.ofRow (R := fun x l' => x = .sl b 0 1 (Lib.compact l).length n ∧ l' = Lib.compact l ++ List.replicate (n - (Lib.compact l).length) []) (ys := []) (vs := []) hf rfl (fun S w μ i y v hy hv => by simp at hy) hc hl hn0 hn fun S w B o cap hgl hS hH hB hcap => ?_).mono (fun x h' hx => ?_) (fun _ _ h => h)
  · have h := AnyG.slices_Compact_string L B o cap l w hH (by omega) (by omega)
    rw [hl] at h
    refine h.mono ?_
    rintro e w' ⟨rfl, q, rfl⟩
    refine ⟨_, q, #[], ⟨by simp; omega, fun s hs => ?_⟩, (Sort.grow_empty _).symm, .inr ⟨(Lib.compact l).length, by omega, rfl, rfl, rfl⟩⟩
    rcases List.mem_append.1 hs with h5 | h5
    · exact hls s (hsub s h5)
    · rw [(List.mem_replicate.1 h5).2]
      simp
  · obtain ⟨l', ⟨rfl, rfl⟩, _, rfl⟩ := hx
    exact ⟨rfl, by omega, rfl⟩
end Go.Proofs.YtdkgoaiodjokpaaGreat.M
