/-
  Resolved operations that make or write memory, and what they do.
-/
import Derived.Test.YtbkcenkfecndjaaGreatDoorM4
import Derived.Deep.AppendSrc
import Derived.Laws.MakeOwn
namespace Go.Proofs.YtbkcenkfecndjaaGreatDoor.M
open Go Go.RowKit
set_option linter.unusedVariables false
set_option linter.unusedSimpArgs false

def rPartS (N sz : Nat) (p : Nat × Operand) : Option (Nat × Nat × Opd) := (rOpd N p.2).map fun x => (p.1 * sz, sz, x)

def rM (P : Program) (N : Nat) : Op → Option MOp
  | .box _ x => (rOpd N x).map .box
  | .alloc t => match P.info? t with
    | some i => i.zero.bind fun z => (absCells z).map .alloc
    | none => none
  | .store t x v => (rOpd N x).bind fun x => (rOpd N v).bind fun v => match P.info? t with
    | some i => some (.store i.size x v)
    | none => none
  | .call { callee := .builtin .append, args, argTypes } => match args.toList, argTypes[0]?, argTypes[1]? with
    | [x, y], some t, some u => (rOpd N x).bind fun x => (rOpd N y).bind fun y => match P.underlying t with
      | some (.slice el) => match P.info? el with
        | some i => if i.size = 0 ∨ i.bytes = 0 then none else i.zero.bind fun z => if z.cells.size = i.size then match P.underlying u with
          | some (.slice el') => if P.cellsOf el' = i.size then some (.app false i.size i.bytes x y) else none
          | some .string => if i.size = 1 then some (.app true i.size i.bytes x y) else none
          | _ => none else none
        | none => none
      | _ => none
    | _, _, _ => none
  | .call { callee := .builtin .copy, args, argTypes } => match args.toList, argTypes[0]?, argTypes[1]? with
    | [x, y], some t, some u => (rOpd N x).bind fun x => (rOpd N y).bind fun y => match P.underlying t, P.underlying u with
      | some (.slice el), some (.slice _) => match P.info? el with
        | some i => if i.size = 0 then none else some (.cpy false i.size x y)
        | none => none
      | _, _ => none
    | _, _, _ => none
  | .buildSlice t len parts => match P.underlying t with
    | some (.slice el) => match P.info? el with
      | some i => if i.size = 0 ∨ 16777216 < len * i.size then none else i.zero.bind fun z => if z.cells.size = i.size then (absCells z).bind fun zs =>
          (parts.toList.mapM (rPartS N i.size)).map fun ps => .bsl i.size len zs ps else none
      | none => none
    | _ => none
  | .makeSlice t l c => (rOpd N l).bind fun l => (rOpd N c).bind fun c => match P.underlying t with
    | some (.slice el) => match P.info? el with
      | some i => if i.size = 0 ∨ i.bytes = 0 then none else i.zero.bind fun z => if z.cells.size = i.size then (absCells z).map fun zs => .mks i.size i.bytes zs l c else none
      | none => none
    | _ => none
  | .makeMap _ none => some .mkm
  | .mapUpdate t m k v => (rOpd N m).bind fun m => (rOpd N k).bind fun k => (rOpd N v).bind fun v => match P.underlying t with
    | some (.map kt _) => match P.underlying kt with
      | some (.int .i64) => some (.mset m k v)
      | _ => none
    | _ => none
  | _ => none

section
variable {P : Program} {N : Nat} {S : Nat → Prop} {w : World} {μ : Mu} {e : Env} {a : Act} {h : H} {pm : Nat → Prop}

/-- The operation does what the abstract one does. -/
def Does (P : Program) (pm : Nat → Prop) (S : Nat → Prop) (w : World) (μ : Mu) (a : Act) (o : Oper) (K : AV → H → Prop) : Prop :=
  ∃ nx v w' μ' x h', (execOp a.eval o).run P w = .ok nx w' ∧ (nx = .value v ∨ (nx = .skip ∧ v = undef)) ∧ K x h' ∧ VR S w' μ' x v ∧ HR S w' μ' h' ∧ Step pm S w μ S w' μ'

theorem cells_of {x v} (hv : VR S w μ x v) (h1 : (cellsOf x).all one = true) : v.cells.size = (cellsOf x).length ∧ (∀ (i : Nat) (y : AV), (cellsOf x)[i]? = some y → VR S w μ y (v.cells.getD i undef)) ∧ ∀ u ∈ v.cells.toList, u.oneCell' = true := by
  have key : v.cells.size = (cellsOf x).length ∧ (∀ (i : Nat) (y : AV), (cellsOf x)[i]? = some y → VR S w μ y (v.cells.getD i undef)) := by
    by_cases ha : ∃ cs, x = .agg cs
    · obtain ⟨cs, rfl⟩ := ha
      obtain ⟨vs, rfl, hl, hvs⟩ := hv.agg_
      exact ⟨hl, hvs⟩
    · have hx : cellsOf x = [x] := by cases x <;> first | rfl | exact absurd ⟨_, rfl⟩ ha
      have hc : v.cells = #[v] := by
        cases hv <;> first | rfl | exact absurd ⟨_, rfl⟩ ha
      rw [hx, hc]
      refine ⟨rfl, fun i y hy => ?_⟩
      cases i with
      | zero => simp at hy; subst hy; exact hv
      | succ i => simp at hy
  refine ⟨key.1, key.2, fun u hu => ?_⟩
  obtain ⟨i, hi, hiu⟩ := List.getElem_of_mem hu
  have hlt : i < (cellsOf x).length := by rw [← key.1]; simpa using hi
  have := (key.2 i _ (List.getElem?_eq_getElem hlt)).oneCell (List.all_eq_true.1 h1 _ (List.getElem_mem hlt))
  rw [← hiu]
  simpa [Array.getD_eq_getD_getElem?, key.1, hlt] using this

/-- A new block. -/
theorem fresh {arr : Array Value} {t : TypeId} {cs : List AV} (hr : HR S w μ h) (hl : cs.length ≤ arr.size) (h1 : cs.all one = true) (hv : ∀ (i : Nat) (x : AV), cs[i]? = some x → VR S w μ x (arr.getD i undef)) :
    HR S (w.alloc (.cells arr t)) (μ ++ [some ⟨w.heap.size, 0, arr.size⟩]) (h ++ [some (.cells cs)]) ∧ Step pm S w μ S (w.alloc (.cells arr t)) (μ ++ [some ⟨w.heap.size, 0, arr.size⟩]) := by
  obtain ⟨h2, h3⟩ := alloc_step (pm := pm) hr (.cells arr t)
  refine ⟨h2.adopt (heap_alloc_new w _) (by omega) h1 (fun i x hx => ?_) (fun hS => ?_) (fun b m hm => ?_), h3.trans (Step.app _ _ _ _ _)⟩
  · simpa using (hv i x hx).fwd h3.toFwd
  · exact absurd (hr.lt _ hS) (Nat.lt_irrefl _)
  · exact Nat.ne_of_lt (hr.lt_of hm)

theorem new_adr {arr : Array Value} (hr : HR S w μ h) (o : Obj) : VR S (w.alloc o) (μ ++ [some ⟨w.heap.size, 0, arr.size⟩]) (.adr h.length 0) (.pointer (some ⟨w.heap.size, 0, none⟩)) :=
  .adr (om := some ⟨w.heap.size, 0, arr.size⟩) (by rw [← hr.len]; simp) rfl (fun m hm => by cases hm; rfl)

theorem new_sl {arr : Array Value} {sz len cap kc : Nat} (hr : HR S w μ h) (o : Obj) (hlk : len ≤ kc) (hl : kc ≤ cap) (hm : cap ≤ maxLen) (hz : 0 < sz) (hn : cap * sz ≤ arr.size) : VR S (w.alloc o) (μ ++ [some ⟨w.heap.size, 0, arr.size⟩]) (.sl h.length 0 sz len kc) (.slice (some ⟨w.heap.size, 0, none⟩) len cap) :=
  .sl (om := some ⟨w.heap.size, 0, arr.size⟩) (by rw [← hr.len]; simp) hlk hl hm rfl hz (fun m hm => by cases hm; exact ⟨rfl, fun _ => rfl, by simpa using hn⟩)

theorem do_box {t x x' K} (o : Oper) (ho : o.op = .box t x) (hx : rOpd N x = some x') (hr : HR S w μ h) (he : ER N S w μ e a.tmps) (hK : ev1 pm e h K (.box x')) : Does P pm S w μ a o K := by
  obtain ⟨h1, hK⟩ := hK
  obtain ⟨c1, c2, c3⟩ := cells_of (opd_sound hx he) h1
  obtain ⟨f1, f2⟩ := fresh (pm := pm) (t := t) hr (Nat.le_of_eq c1.symm) h1 c2
  exact ⟨_, .pointer (some ⟨w.heap.size, 0, none⟩), _, _, _, _, by simp [execOp, ho, Instr.box, newVar, newRow], .inl rfl, hK, new_adr hr _, f1, f2⟩

theorem do_alloc {t i z zs K} (o : Oper) (ho : o.op = .alloc t) (hi : P.info? t = some i) (hz : i.zero = some z) (hzs : absCells z = some zs) (hr : HR S w μ h) (hK : ev1 pm e h K (.alloc zs)) : Does P pm S w μ a o K := by
  obtain ⟨h1, hK⟩ := hK
  obtain ⟨c1, c2, c3⟩ := abs_cells (S := S) (w := w) (μ := μ) hzs
  obtain ⟨f1, f2⟩ := fresh (pm := pm) (t := t) (arr := z.cells) hr (Nat.le_of_eq c1) c3 c2
  exact ⟨_, .pointer (some ⟨w.heap.size, 0, none⟩), _, _, _, _, by simp [execOp, ho, Instr.alloc, zeroValue, typeInfo, hi, hz, newVar, newRow], .inl rfl, hK, new_adr hr _, f1, f2⟩

theorem do_store {t x v x' v' i K} (o : Oper) (ho : o.op = .store t x v) (hx : rOpd N x = some x') (hv : rOpd N v = some v') (hi : P.info? t = some i) (hr : HR S w μ h) (he : ER N S w μ e a.tmps)
    (hK : ev1 pm e h K (.store i.size x' v')) : Does P pm S w μ a o K := by
  have hxv := opd_sound hx he
  simp only [ev1] at hK
  split at hK
  · rename_i b off hp
    obtain ⟨hpm, hK⟩ := hK
    split at hK
    · rename_i cs hcs
      obtain ⟨k1, k2, k3, hK⟩ := hK
      obtain ⟨m, arr, t', hm, hg, hn, hl, h1, hvs⟩ := hr.cells hcs
      rw [hp] at hxv
      have h2 := hxv.adr_ hm
      obtain ⟨c1, c2, c3⟩ := cells_of (opd_sound hv he) k3
      obtain ⟨q1, q2⟩ := write_cells (pm := pm) (off := off) (vs := (a.eval v).cells.toList) hr hm hpm hg hn hl h1 hvs (by omega) k3 (by simpa using c1) (fun j y hy => by simpa [List.getD_eq_getElem?_getD] using c2 j y hy)
      have hsz : (a.eval v).cells.size = i.size := by omega
      have hcell : ∀ j, j < (a.eval v).cells.toList.length → (w.cell? ⟨m.B, m.o + off + 0 + j, none⟩).isSome = true := by
        intro j hj
        rw [Array.length_toList] at hj
        rw [cell_of hg, Array.getElem?_eq_getElem (by omega)]
        rfl
      have hst := run_storeCells_cells (P := P) m.B (m.o + off) (a.eval v).cells.toList 0 w hcell (fun j hj => by simp [World.frozen?, hg]) c3
      simp only [Nat.add_zero] at hst
      exact ⟨_, undef, _, _, _, _, by simp [execOp, ho, h2, Instr.storeAt, Instr.sureAddr, storeVar, run_sizeOf' hi, hsz, hst], .inr ⟨rfl, rfl⟩, hK, VR.undef_ _ _ _, q2, q1⟩
    · exact hK.elim
  · exact hK.elim

/-- What an append takes. -/
theorem app_src {t y v new n} {st : Bool} {sz : Nat} (hu : if st then P.underlying t = some .string else ∃ el, P.underlying t = some (.slice el)) (hv : VR S w μ y v) (hr : HR S w μ h) (hs : srcCells h st sz y = some (new, n)) :
    ∃ vs : List Value, Src P sz t v n vs w ∧ vs.length = new.length ∧ new.all one = true ∧ (∀ (i : Nat) (x : AV), new[i]? = some x → VR S w μ x (vs.getD i undef)) := by
  have mk : ∀ (new : List AV) (f : Nat → Value) (A : Addr) (cap : Nat), new.all one = true → new.length = n * sz → v = .slice (some A) n cap → (∃ el, P.underlying t = some (.slice el)) →
      (∀ (i : Nat) (x : AV), new[i]? = some x → w.cell? (A.add i) = some (f i)) → (∀ (i : Nat) (x : AV), new[i]? = some x → VR S w μ x (f i)) →
      ∃ vs : List Value, Src P sz t v n vs w ∧ vs.length = new.length ∧ new.all one = true ∧ (∀ (i : Nat) (x : AV), new[i]? = some x → VR S w μ x (vs.getD i undef)) := by
    intro new f A cap h1 hl hve hel hc hvv
    obtain ⟨el, hel⟩ := hel
    subst hve
    refine ⟨(List.range new.length).map f, Src.ofSlice w hel A n cap _ (by simp [hl]) (fun j u hu => ?_) (fun u hu => ?_), by simp, h1, fun i x hx => ?_⟩
    · rw [List.getElem?_map, Option.map_eq_some_iff] at hu
      obtain ⟨k, hk, rfl⟩ := hu
      have hlt := (List.getElem?_eq_some_iff.1 hk).1
      simp at hlt
      have : k = j := by
        have := (List.getElem?_eq_some_iff.1 hk).2
        simpa using this.symm
      subst this
      exact hc _ _ (List.getElem?_eq_getElem hlt)
    · rw [List.mem_map] at hu
      obtain ⟨k, hk, rfl⟩ := hu
      have hlt : k < new.length := by simpa using hk
      exact (hvv _ _ (List.getElem?_eq_getElem hlt)).oneCell (List.all_eq_true.1 h1 _ (List.getElem_mem hlt))
    · have hlt := (List.getElem?_eq_some_iff.1 hx).1
      have := hvv i x hx
      simpa [List.getD_eq_getElem?_getD, hlt] using this
  unfold srcCells at hs
  split at hs
  · split at hs
    · cases hs
    · rename_i hst
      injection hs with hs
      injection hs with e1 e2
      subst e1 e2
      have e := hv.nils_
      subst e
      rw [if_neg hst] at hu
      obtain ⟨el, hel⟩ := hu
      exact ⟨[], Src.ofNil w hel 0, rfl, rfl, fun i x hx => by simp at hx⟩
  · rename_i s
    split at hs
    · rename_i hsz
      injection hs with hs
      injection hs with e1 e2
      obtain ⟨rfl, rfl⟩ := hsz
      subst e1 e2
      have e := hv.str_
      subst e
      rw [if_pos rfl] at hu
      refine ⟨_, Src.ofString w hu _, by simp [byteCells_length, sizeL], by simp [one], fun i x hx => ?_⟩
      rw [List.getElem?_map, Option.map_eq_some_iff] at hx
      obtain ⟨c, hc, rfl⟩ := hx
      have : (byteCells ⟨s.toArray⟩)[i]? = some (.int .u8 c.toNat) := by
        simp [byteCells, hc]
      simp only [List.getD_eq_getElem?_getD, this]
      exact .int _ _
    · cases hs
  · rename_i b off sz' len kc
    split at hs
    · rename_i hsz
      obtain ⟨rfl, rfl⟩ := hsz
      simp only [Option.bind_eq_some_iff] at hs
      obtain ⟨cs, hcs, hs⟩ := hs
      split at hs
      · rename_i hle
        injection hs with hs
        injection hs with e1 e2
        subst e1 e2
        obtain ⟨m, arr, t', hm, hg, hn, hl, h1, hvs⟩ := hr.cells hcs
        obtain ⟨A, cap, h2, hlk, hkc, hmx, hB, hsp, hof, hcn, hz0⟩ := hv.sl_ hm
        have hel : ∃ el, P.underlying t = some (.slice el) := by simpa using hu
        have get : ∀ (i : Nat) (x : AV), ((cs.drop off).take (len * sz))[i]? = some x → i < len * sz ∧ cs[off + i]? = some x := by
          intro i x hx
          rw [List.getElem?_take] at hx
          split at hx
          · rw [List.getElem?_drop] at hx
            exact ⟨by assumption, hx⟩
          · cases hx
        refine mk _ (fun i => arr.getD (m.o + (off + i)) undef) A cap (List.all_eq_true.2 fun x hx => ?_) (by simp; omega) h2 hel (fun i x hx => ?_) (fun i x hx => hvs _ _ (get i x hx).2)
        · obtain ⟨i, hi⟩ := List.getElem?_of_mem hx
          exact h1 _ _ (get i x hi).2
        · obtain ⟨hi, hx⟩ := get i x hx
          have hlen : 0 < len := by
            rcases Nat.eq_zero_or_pos len with h0 | h0
            · subst h0; simp at hi
            · exact h0
          obtain ⟨B, o', sp⟩ := A
          simp only at hB hsp hof
          subst hB hsp
          rw [add_off, hof (by omega), cell_of hg]
          have hlt : off + i < cs.length := (List.getElem?_eq_some_iff.1 hx).1
          rw [Array.getD_eq_getD_getElem?, Array.getElem?_eq_getElem (by omega), Array.getElem?_eq_getElem (by omega)]
          simp [Nat.add_assoc]
      · cases hs
    · cases hs
  · rename_i sz' cs len
    split at hs
    · rename_i hsz
      obtain ⟨rfl, rfl, hle⟩ := hsz
      injection hs with hs
      injection hs with e1 e2
      subst e1 e2
      obtain ⟨A, cap, f, h2, hl, hmx, hz0, h1, hS, hcc, hvv⟩ := hv.ro_
      have hel : ∃ el, P.underlying t = some (.slice el) := by simpa using hu
      have get : ∀ (i : Nat) (x : AV), (cs.take (len * sz))[i]? = some x → cs[i]? = some x := by
        intro i x hx
        rw [List.getElem?_take] at hx
        split at hx
        · exact hx
        · cases hx
      refine mk _ f A cap (List.all_eq_true.2 fun x hx => List.all_eq_true.1 h1 x (List.mem_of_mem_take hx)) (by simp; omega) h2 hel (fun i x hx => ?_) (fun i x hx => hvv _ _ (get i x hx))
      obtain ⟨_, hsp⟩ := hS (.inr (ne_of_get (get i x hx)))
      obtain ⟨B, o', sp⟩ := A
      simp only at hsp
      subst hsp
      rw [add_off]
      exact hcc _ _ (get i x hx)
    · cases hs
  · cases hs
/-- What a copy takes: so many elements of a slice. -/
theorem cpy_src {y v new n k} {sz : Nat} (hv : VR S w μ y v) (hr : HR S w μ h) (hs : srcCells h false sz y = some (new, n)) (hk : k ≤ n) :
    ∃ vs : List Value, (∀ w' : World, (Builtin.lenOf v).run P w' = .ok n w') ∧ (Builtin.firstCells sz k v).run P w = .ok vs.toArray w ∧ vs.length = k * sz ∧ vs.length = (new.take (k * sz)).length ∧ (new.take (k * sz)).all one = true ∧ (∀ u ∈ vs, u.oneCell' = true) ∧ (∀ (i : Nat) (x : AV), (new.take (k * sz))[i]? = some x → VR S w μ x (vs.getD i undef)) := by
  have hkn : k * sz ≤ n * sz := Nat.mul_le_mul_right _ hk
  have mk : ∀ (new : List AV) (f : Nat → Value) (A : Addr) (cap : Nat), new.all one = true → new.length = n * sz → v = .slice (some A) n cap →
      (∀ (i : Nat) (x : AV), new[i]? = some x → w.cell? (A.add i) = some (f i)) → (∀ (i : Nat) (x : AV), new[i]? = some x → VR S w μ x (f i)) →
      ∃ vs : List Value, (∀ w' : World, (Builtin.lenOf v).run P w' = .ok n w') ∧ (Builtin.firstCells sz k v).run P w = .ok vs.toArray w ∧ vs.length = k * sz ∧ vs.length = (new.take (k * sz)).length ∧ (new.take (k * sz)).all one = true ∧ (∀ u ∈ vs, u.oneCell' = true) ∧ (∀ (i : Nat) (x : AV), (new.take (k * sz))[i]? = some x → VR S w μ x (vs.getD i undef)) := by
    intro new f A cap h1 hl hve hc hvv
    subst hve
    refine ⟨(List.range (k * sz)).map f, fun _ => rfl, run_firstCells_some w sz k A n cap _ (by simp) (fun j u hu => ?_), by simp, by simp; omega, List.all_eq_true.2 fun x hx => List.all_eq_true.1 h1 x (List.mem_of_mem_take hx), fun u hu => ?_, fun i x hx => ?_⟩
    · rw [List.getElem?_map, Option.map_eq_some_iff] at hu
      obtain ⟨q, hq, rfl⟩ := hu
      have hlt := (List.getElem?_eq_some_iff.1 hq).1
      simp at hlt
      have : q = j := by
        have := (List.getElem?_eq_some_iff.1 hq).2
        simpa using this.symm
      subst this
      exact hc _ _ (List.getElem?_eq_getElem (by omega))
    · rw [List.mem_map] at hu
      obtain ⟨q, hq, rfl⟩ := hu
      have hlt : q < new.length := by
        have : q < k * sz := by simpa using hq
        omega
      exact (hvv _ _ (List.getElem?_eq_getElem hlt)).oneCell (List.all_eq_true.1 h1 _ (List.getElem_mem hlt))
    · rw [List.getElem?_take] at hx
      split at hx
      · rename_i hi
        have := hvv i x hx
        simpa [List.getD_eq_getElem?_getD, hi] using this
      · cases hx
  unfold srcCells at hs
  split at hs
  · split at hs
    · cases hs
    · injection hs with hs
      injection hs with e1 e2
      subst e1 e2
      have e := hv.nils_
      subst e
      have hk0 : k = 0 := by omega
      subst hk0
      exact ⟨[], fun _ => rfl, run_firstCells_none w sz 0 0 0, by simp, by simp, by simp, by simp, fun i x hx => by simp at hx⟩
  · split at hs
    · rename_i hsz
      cases hsz.1
    · cases hs
  · rename_i b off sz' len kc
    split at hs
    · rename_i hsz
      obtain ⟨_, rfl⟩ := hsz
      simp only [Option.bind_eq_some_iff] at hs
      obtain ⟨cs, hcs, hs⟩ := hs
      split at hs
      · rename_i hle
        injection hs with hs
        injection hs with e1 e2
        subst e1 e2
        obtain ⟨m, arr, t', hm, hg, hn, hl, h1, hvs⟩ := hr.cells hcs
        obtain ⟨A, cap, h2, hlk, hkc, hmx, hB, hsp, hof, hcn, hz0⟩ := hv.sl_ hm
        have get : ∀ (i : Nat) (x : AV), ((cs.drop off).take (len * sz))[i]? = some x → i < len * sz ∧ cs[off + i]? = some x := by
          intro i x hx
          rw [List.getElem?_take] at hx
          split at hx
          · rw [List.getElem?_drop] at hx
            exact ⟨by assumption, hx⟩
          · cases hx
        refine mk _ (fun i => arr.getD (m.o + (off + i)) undef) A cap (List.all_eq_true.2 fun x hx => ?_) (by simp; omega) h2 (fun i x hx => ?_) (fun i x hx => hvs _ _ (get i x hx).2)
        · obtain ⟨i, hi⟩ := List.getElem?_of_mem hx
          exact h1 _ _ (get i x hi).2
        · obtain ⟨hi, hx⟩ := get i x hx
          have hlen : 0 < len := by
            rcases Nat.eq_zero_or_pos len with h0 | h0
            · subst h0; simp at hi
            · exact h0
          obtain ⟨B, o', sp⟩ := A
          simp only at hB hsp hof
          subst hB hsp
          rw [add_off, hof (by omega), cell_of hg]
          have hlt : off + i < cs.length := (List.getElem?_eq_some_iff.1 hx).1
          rw [Array.getD_eq_getD_getElem?, Array.getElem?_eq_getElem (by omega), Array.getElem?_eq_getElem (by omega)]
          simp [Nat.add_assoc]
      · cases hs
    · cases hs
  · rename_i sz' cs len
    split at hs
    · rename_i hsz
      obtain ⟨_, rfl, hle⟩ := hsz
      injection hs with hs
      injection hs with e1 e2
      subst e1 e2
      obtain ⟨A, cap, f, h2, hl, hmx, hz0, h1, hS, hcc, hvv⟩ := hv.ro_
      have get : ∀ (i : Nat) (x : AV), (cs.take (len * sz))[i]? = some x → cs[i]? = some x := by
        intro i x hx
        rw [List.getElem?_take] at hx
        split at hx
        · exact hx
        · cases hx
      refine mk _ f A cap (List.all_eq_true.2 fun x hx => List.all_eq_true.1 h1 x (List.mem_of_mem_take hx)) (by simp; omega) h2 (fun i x hx => ?_) (fun i x hx => hvv _ _ (get i x hx))
      obtain ⟨_, hsp⟩ := hS (.inr (ne_of_get (get i x hx)))
      obtain ⟨B, o', sp⟩ := A
      simp only at hsp
      subst hsp
      rw [add_off]
      exact hcc _ _ (get i x hx)
    · cases hs
  · cases hs
end
end Go.Proofs.YtbkcenkfecndjaaGreatDoor.M
