/-
  A law's arguments, read by the row's own reading, as abstract values; and the row's end.
-/
import Derived.Test.YtbkcenkfecndjaaGreatDoorM9
import Derived.DataReads
import Derived.Carry
import Derived.ChangeArms
import Derived.WalkKit
import Derived.ProofKit
import Derived.OpenShut
import Derived.ShutString
import Derived.ChangeOld
import Derived.SizedLaws
namespace Go.Proofs.YtbkcenkfecndjaaGreatDoor.M
open Go Go.RowKit Go.ChangeShapes Go.WideShapes Go.ChangeAt
set_option linter.unusedVariables false
set_option linter.unusedSimpArgs false

inductive Sh where
  | int (k : IntKind)
  | bool
  | str
  | sl (s : Sh) (sz : Nat)
  | st (fs : List Sh)

mutual
inductive Fit : Sh → List AV → Prop
  | int {k : IntKind} {n : Int} (h1 : k.min ≤ n) (h2 : n ≤ k.max) : Fit (.int k) [.int k n]
  | bool (b : Bool) : Fit .bool [.bool b]
  | str {s : List UInt8} (h : s.length ≤ 9223372036854775807) : Fit .str [.str s]
  | nil {s : Sh} {sz : Nat} : Fit (.sl s sz) [.nils]
  | sl {s : Sh} {sz n : Nat} (g : Nat → List AV) (hm : n ≤ 9223372036854775807) (hl : ∀ i, i < n → (g i).length = sz) (h : ∀ i, i < n → Fit s (g i)) : Fit (.sl s sz) [.ro sz ((List.range n).flatMap g) n]
  | st {fs : List Sh} {xs : List AV} (h : Fits fs xs) : Fit (.st fs) xs
inductive Fits : List Sh → List AV → Prop
  | nil : Fits [] []
  | cons {s : Sh} {ss : List Sh} {xs ys : List AV} (h : Fit s xs) (hr : Fits ss ys) : Fits (s :: ss) (xs ++ ys)
end

def offsOk (P : Program) : Nat → List Field → Option Nat
  | o, [] => some o
  | o, f :: r => if f.offset = o then offsOk P (o + P.cellsOf f.type) r else none

def shOf (P : Program) : Nat → TypeId → Option Sh
  | 0, _ => none
  | fuel + 1, t => match P.underlying t with
    | some .bool => some .bool
    | some (.int k) => some (.int k)
    | some .string => some .str
    | some (.slice e) => if P.cellsOf e = 0 then none else (shOf P fuel e).map fun s => .sl s (P.cellsOf e)
    | some (.struct fs) => if offsOk P 0 fs.toList = some (P.cellsOf t) then (fs.toList.mapM fun f => shOf P fuel f.type).map .st else none
    | _ => none

def VRs (S : Nat → Prop) (w : World) (μ : Mu) (xs : List AV) (cs : List Value) : Prop := xs.length = cs.length ∧ xs.all one = true ∧ ∀ (i : Nat) (x : AV), xs[i]? = some x → VR S w μ x (cs.getD i undef)

theorem flat_len {g : Nat → List AV} {sz : Nat} : ∀ {n : Nat}, (∀ i, i < n → (g i).length = sz) → ((List.range n).flatMap g).length = n * sz
  | 0, _ => by simp
  | n + 1, h => by
    rw [List.range_succ, List.flatMap_append, List.length_append, flat_len (fun i hi => h i (by omega)), Nat.succ_mul]
    simp [h n (by omega)]
theorem flat_get {g : Nat → List AV} {sz : Nat} : ∀ {n : Nat}, (∀ i, i < n → (g i).length = sz) → ∀ {q : Nat} {x : AV}, ((List.range n).flatMap g)[q]? = some x → ∃ i j, i < n ∧ j < sz ∧ q = i * sz + j ∧ (g i)[j]? = some x
  | 0, _, q, x, hx => by simp at hx
  | n + 1, h, q, x, hx => by
    have hl := flat_len (g := g) (sz := sz) (n := n) (fun i hi => h i (by omega))
    rw [List.range_succ, List.flatMap_append] at hx
    by_cases hq : q < n * sz
    · rw [List.getElem?_append_left (by omega)] at hx
      obtain ⟨i, j, h1, h2⟩ := flat_get (fun i hi => h i (by omega)) hx
      exact ⟨i, j, by omega, h2⟩
    · rw [List.getElem?_append_right (by omega), hl] at hx
      simp only [List.flatMap_cons, List.flatMap_nil, List.append_nil] at hx
      have hlt := (List.getElem?_eq_some_iff.1 hx).1
      rw [h n (by omega)] at hlt
      exact ⟨n, q - n * sz, by omega, hlt, by omega, hx⟩
theorem flat_one {g : Nat → List AV} {n : Nat} (h : ∀ i, i < n → (g i).all one = true) : ((List.range n).flatMap g).all one = true := by
  rw [List.all_eq_true]
  intro x hx
  obtain ⟨i, hi, hx⟩ := List.mem_flatMap.1 hx
  exact List.all_eq_true.1 (h i (List.mem_range.1 hi)) x hx

theorem cells?_get {w : World} {base : Nat} {a : Addr} {n : Nat} {cs : List Value} (h : w.cells? base a n = some cs) : cs.length = n ∧ ∀ j, j < n → w.cell? (a.add j) = some (cs.getD j undef) := by
  unfold World.cells? at h
  split at h
  · have hl := mapM_some_length h
    simp at hl
    refine ⟨hl, fun j hj => ?_⟩
    have := mapM_some_get h j j (by simp [hj])
    rw [this, List.getD_eq_getElem?_getD, List.getElem?_eq_getElem (by omega)]
    rfl
  · cases h

theorem cell?_some {w : World} {a : Addr} {v : Value} (h : w.cell? a = some v) : a.block < w.heap.size ∧ a.spot = none := by
  unfold World.cell? at h
  split at h
  · rename_i hb
    split at h
    · cases h
    · rename_i hs
      refine ⟨(Array.getElem?_eq_some_iff.1 hb).1, ?_⟩
      cases hq : a.spot with
      | none => rfl
      | some _ => rw [hq] at hs; simp at hs
  · cases h

section
variable {H : Type} {enc : TypeId × Value → H} {P : Program} {w : World} {μ : Mu}

theorem fits_of {shf : TypeId → Option Sh} {cs : List Value} {R : TypeId → List Value → Prop} (ih : ∀ t s cs, shf t = some s → R t cs → ∃ xs, Fit s xs ∧ VRs (fun B => B < w.heap.size) w μ xs cs) :
    ∀ (fs : List Field) (o e : Nat) (ss : List Sh), offsOk P o fs = some e → fs.mapM (fun f => shf f.type) = some ss → (∀ f ∈ fs, R f.type ((cs.drop f.offset).take (P.cellsOf f.type))) → e ≤ cs.length →
    ∃ xs, Fits ss xs ∧ o ≤ e ∧ VRs (fun B => B < w.heap.size) w μ xs ((cs.drop o).take (e - o))
  | [], o, e, ss, ho, hs, hr, he => by
    simp only [offsOk, Option.some.injEq] at ho
    simp only [List.mapM_nil, Option.pure_def, Option.some.injEq] at hs
    subst ho hs
    refine ⟨[], .nil, Nat.le_refl _, ?_, rfl, fun i x hx => by simp at hx⟩
    simp
  | f :: fs, o, e, ss, ho, hs, hr, he => by
    simp only [offsOk] at ho
    split at ho
    · rename_i hfo
      simp only [List.mapM_cons, Option.bind_eq_bind, Option.bind_eq_some_iff] at hs
      obtain ⟨s, hs1, ss', hs2, hs3⟩ := hs
      injection hs3 with hs3
      subst hs3
      obtain ⟨xs1, hf1, hl1, h11, hv1⟩ := ih _ _ _ hs1 (hr f (by simp))
      obtain ⟨xs2, hf2, hoe, hl2, h12, hv2⟩ := fits_of ih fs _ e ss' ho hs2 (fun f hf => hr f (by simp [hf])) he
      rw [hfo] at hl1 hv1
      have hlen1 : xs1.length = P.cellsOf f.type := by
        rw [hl1]
        simp
        omega
      have hlen2 : xs2.length = e - (o + P.cellsOf f.type) := by
        rw [hl2]
        simp
        omega
      refine ⟨xs1 ++ xs2, .cons hf1 hf2, by omega, ?_, by rw [List.all_append, h11, h12]; rfl, fun i x hx => ?_⟩
      · simp [hlen1, hlen2]
        omega
      · have hget : ∀ k, ((cs.drop o).take (e - o)).getD k undef = if k < e - o then (cs[o + k]?).getD undef else undef := by
          intro k
          rw [List.getD_eq_getElem?_getD, List.getElem?_take]
          split
          · rw [List.getElem?_drop]
          · rfl
        rw [hget]
        by_cases hi : i < xs1.length
        · rw [List.getElem?_append_left hi] at hx
          have := hv1 i x hx
          rw [List.getD_eq_getElem?_getD, List.getElem?_take, if_pos (by omega), List.getElem?_drop] at this
          rwa [if_pos (by omega)]
        · rw [List.getElem?_append_right (by omega)] at hx
          have hlt := (List.getElem?_eq_some_iff.1 hx).1
          have := hv2 _ x hx
          rw [List.getD_eq_getElem?_getD, List.getElem?_take, if_pos (by omega), List.getElem?_drop] at this
          rw [if_pos (by omega)]
          rwa [show o + P.cellsOf f.type + (i - xs1.length) = o + i by omega] at this
    · cases ho

theorem vrs_one {S : Nat → Prop} {x : AV} {v : Value} (h1 : one x = true) (hv : VR S w μ x v) : VRs S w μ [x] [v] := ⟨rfl, by simp [h1], fun i y hy => by
  cases i with
  | zero => simp at hy; subst hy; exact hv
  | succ i => simp at hy⟩

theorem trod_fit : ∀ (fuel : Nat) (fuel2 : Nat) (t : TypeId) (s : Sh) (cs : List Value) (x : DataW H × List MemPlace), shOf P fuel t = some s → DataW.trod enc P w 0 (fun _ => true) true fuel2 t cs = some x →
    ∃ xs, Fit s xs ∧ VRs (fun B => B < w.heap.size) w μ xs cs
  | 0, _, _, _, _, _, hs, _ => by cases hs
  | fuel + 1, fuel2, t, s, cs, x, hs, hd => by
    have ih := trod_fit fuel
    unfold shOf at hs
    split at hs
    · rename_i hu
      injection hs with hs
      subst hs
      obtain ⟨b, rfl, rfl⟩ := DataW.trod_bool hu hd
      exact ⟨[.bool b], .bool b, vrs_one rfl (.bool b)⟩
    · rename_i k hu
      injection hs with hs
      subst hs
      obtain ⟨n, rfl, rfl, hw⟩ := DataW.trod_int hu hd
      simp only [Lit.wf, Bool.and_eq_true, decide_eq_true_eq] at hw
      exact ⟨[.int k n], .int hw.1 hw.2, vrs_one rfl (.int k n)⟩
    · rename_i hu
      injection hs with hs
      subst hs
      obtain ⟨b, rfl, rfl, hb⟩ := DataW.trod_string hu hd
      refine ⟨[.str b.data.toList], .str (by simpa [maxLen] using hb), vrs_one rfl ?_⟩
      have := VR.str (S := fun B => B < w.heap.size) (w := w) (μ := μ) b.data.toList (by simpa [maxLen] using hb)
      simpa using this
    · rename_i e hu
      split at hs
      · cases hs
      · rename_i hz
        obtain ⟨s', hs', rfl⟩ := Option.map_eq_some_iff.1 hs
        rcases DataW.trod_slice hu hd with ⟨rfl, rfl⟩ | ⟨a, len, cap, elems, rest, n, rfl, rfl, rfl, _, hl, hm, hlen, hel, _⟩
        · exact ⟨[.nils], .nil, vrs_one rfl .nils⟩
        · have each : ∀ i, ∃ xs : List AV, i < len → Fit s' xs ∧ xs.length = P.cellsOf e ∧ xs.all one = true ∧ ∀ j, j < P.cellsOf e → ∃ u, w.cell? ((a.add (i * P.cellsOf e)).add j) = some u ∧ ∀ y, xs[j]? = some y → VR (fun B => B < w.heap.size) w μ y u := by
            intro i
            by_cases hi : i < len
            · have h1 := hel i hi
              rw [List.getElem?_eq_getElem (by omega)] at h1
              obtain ⟨cs', hc, ht⟩ := Option.bind_eq_some_iff.1 h1
              obtain ⟨c1, c2⟩ := cells?_get hc
              obtain ⟨xs, hf, hl', h1', hv⟩ := ih _ _ _ _ _ hs' ht
              exact ⟨xs, fun _ => ⟨hf, by omega, h1', fun j hj => ⟨_, c2 j hj, fun y hy => hv j y hy⟩⟩⟩
            · exact ⟨[], fun h => absurd h hi⟩
          let g : Nat → List AV := fun i => Classical.choose (each i)
          have hg : ∀ i, i < len → Fit s' (g i) ∧ (g i).length = P.cellsOf e ∧ (g i).all one = true ∧ ∀ j, j < P.cellsOf e → ∃ u, w.cell? ((a.add (i * P.cellsOf e)).add j) = some u ∧ ∀ y, (g i)[j]? = some y → VR (fun B => B < w.heap.size) w μ y u := fun i hi => Classical.choose_spec (each i) hi
          have hsp : 0 < len → a.block < w.heap.size ∧ a.spot = none := by
            intro h0
            obtain ⟨_, _, _, hj⟩ := hg 0 h0
            obtain ⟨u, hu, _⟩ := hj 0 (by omega)
            simp only [Nat.zero_mul, Addr.add, if_true] at hu
            exact cell?_some hu
          have hgl : ∀ i, i < len → (g i).length = P.cellsOf e := fun i hi => (hg i hi).2.1
          have hcell : ∀ q y, ((List.range len).flatMap g)[q]? = some y → w.cell? ⟨a.block, a.off + q, none⟩ = some ((w.cell? ⟨a.block, a.off + q, none⟩).getD undef) ∧ VR (fun B => B < w.heap.size) w μ y ((w.cell? ⟨a.block, a.off + q, none⟩).getD undef) := by
            intro q y hq
            obtain ⟨i, j, hi, hj, rfl, hy⟩ := flat_get hgl hq
            obtain ⟨_, _, _, hjj⟩ := hg i hi
            obtain ⟨u, hu, hv⟩ := hjj j hj
            have hs0 := (hsp (by omega)).2
            obtain ⟨B, o, sp⟩ := a
            simp only at hs0
            subst hs0
            rw [add_off, add_off] at hu
            rw [← Nat.add_assoc]
            simp only
            rw [hu]
            exact ⟨rfl, hv y hy⟩
          refine ⟨[.ro (P.cellsOf e) ((List.range len).flatMap g) len], .sl g (by simp [maxLen] at hm; omega) hgl (fun i hi => (hg i hi).1), vrs_one rfl ?_⟩
          refine .ro (f := fun q => (w.cell? ⟨a.block, a.off + q, none⟩).getD undef) hl hm (Nat.pos_of_ne_zero hz) (flat_one fun i hi => (hg i hi).2.2.1) (fun hh => ?_) (fun q y hq => (hcell q y hq).1) (fun q y hq => (hcell q y hq).2)
          rcases hh with hh | hh
          · exact hsp hh
          · refine hsp (Nat.pos_of_ne_zero fun h0 => hh ?_)
            subst h0
            rfl
    · rename_i fs hu
      split at hs
      · rename_i ho
        obtain ⟨ss, hss, rfl⟩ := Option.map_eq_some_iff.1 hs
        obtain ⟨xs, n, rfl, rfl, hlen, hxl, hf⟩ := DataW.trod_struct hu hd
        obtain ⟨ys, hy, _, hv⟩ := fits_of (w := w) (μ := μ) (cs := cs) (R := fun t cs => ∃ x, DataW.trod enc P w 0 (fun _ => true) true n t cs = some x) (fun t s cs h1 ⟨x, h2⟩ => ih n t s cs x h1 h2) fs.toList 0 _ ss ho hss
          (fun f hf' => by
            obtain ⟨i, hi⟩ := List.getElem?_of_mem hf'
            have hi' : fs[i]? = some f := by simpa using hi
            have hlt : i < xs.length := by rw [hxl]; exact (Array.getElem?_eq_some_iff.1 hi').1
            exact ⟨_, (hf i f hi').trans (List.getElem?_eq_getElem hlt)⟩) (Nat.le_of_eq hlen.symm)
        refine ⟨ys, .st hy, ?_⟩
        simpa [← hlen] using hv
      · cases hs
    · cases hs

/-! ### arguments -/
def argOf : Sh → List AV → AV
  | .st _, xs => .agg xs
  | _, xs => xs.headD unset
inductive ArgsFit : List Sh → List AV → Prop
  | nil : ArgsFit [] []
  | cons {s : Sh} {ss : List Sh} {xs ys : List AV} (h : Fit s xs) (hr : ArgsFit ss ys) : ArgsFit (s :: ss) (argOf s xs :: ys)

theorem arg_fit {base : Nat} {t : TypeId} {v : Value} {s : Sh} {d : DataW H} {ps : List MemPlace} {fuel : Nat} (hs : shOf P fuel t = some s) (hval : Value.okWide P w .any base t v) (hd : DataW.Trod enc P w 0 (fun _ => true) true t v d ps) :
    ∃ xs, Fit s xs ∧ VR (fun B => B < w.heap.size) w μ (argOf s xs) v := by
  obtain ⟨fuel2, hd⟩ := hd
  obtain ⟨xs, hf, hl, h1, hv⟩ := trod_fit (μ := μ) fuel fuel2 t s _ _ hs hd
  refine ⟨xs, hf, ?_⟩
  cases fuel with
  | zero => cases hs
  | succ fuel =>
    unfold shOf at hs
    unfold Value.okWide at hval
    have one_ : (∀ cs, v ≠ .agg cs) → s = s → VR (fun B => B < w.heap.size) w μ (xs.headD unset) v := by
      intro hna _
      have hc : v.cells = #[v] := by cases v <;> first | rfl | exact absurd rfl (hna _)
      rw [hc] at hl hv
      cases xs with
      | nil => simp at hl
      | cons x r => exact hv 0 x rfl
    have scalar : ∀ (hna : ∀ cs, v ≠ .agg cs), (∀ fs, s ≠ .st fs) → VR (fun B => B < w.heap.size) w μ (argOf s xs) v := by
      intro hna hst
      have := one_ hna rfl
      cases s <;> first | exact this | exact absurd rfl (hst _)
    have cellNa : ∀ {d}, P.underlying t = some d → isAggD d = false → ∀ cs, v ≠ .agg cs := by
      intro d hu hag cs he
      subst he
      cases d <;> simp [isAggD] at hag <;> simp [hu, Cell.okWide, Cell.ok] at hval
    split at hs
    · rename_i hu
      injection hs with hs
      subst hs
      exact scalar (cellNa hu rfl) (fun fs h => by cases h)
    · rename_i hu
      injection hs with hs
      subst hs
      exact scalar (cellNa hu rfl) (fun fs h => by cases h)
    · rename_i hu
      injection hs with hs
      subst hs
      exact scalar (cellNa hu rfl) (fun fs h => by cases h)
    · rename_i e hu
      split at hs
      · cases hs
      · obtain ⟨s', _, rfl⟩ := Option.map_eq_some_iff.1 hs
        exact scalar (cellNa hu rfl) (fun fs h => by cases h)
    · rename_i fs hu
      split at hs
      · obtain ⟨ss, _, rfl⟩ := Option.map_eq_some_iff.1 hs
        rw [hu] at hval
        obtain ⟨cs, rfl, _⟩ := hval
        exact .agg (by simpa [Value.cells] using hl.symm) (fun i x hx => by
          have := hv i x hx
          simpa [Value.cells, List.getD_eq_getElem?_getD, Array.getD_eq_getD_getElem?] using this)
      · cases hs
    · cases hs

theorem args_fit {base fuel : Nat} : ∀ {ts : List TypeId} {vs : List Value} {ds : List (DataW H)} {ps : List MemPlace} {ss : List Sh}, ts.mapM (shOf P fuel) = some ss → (∀ (j : Nat) t v, ts[j]? = some t → vs[j]? = some v → Value.okWide P w .any base t v) →
    DataW.TrodAll enc P w 0 (fun _ => true) true ts vs ds ps → ∃ ys, ArgsFit ss ys ∧ vs.length = ys.length ∧ ds.length = ts.length ∧ ∀ (i : Nat) (y : AV), ys[i]? = some y → VR (fun B => B < w.heap.size) w μ y (vs.getD i undef)
  | [], [], [], ps, ss, hs, _, _ => by
    simp at hs
    subst hs
    exact ⟨[], .nil, rfl, rfl, fun i y hy => by simp at hy⟩
  | t :: ts, v :: vs, d :: ds, ps, ss, hs, hval, hd => by
    simp only [List.mapM_cons, Option.bind_eq_bind, Option.bind_eq_some_iff] at hs
    obtain ⟨s, hs1, ss', hs2, hs3⟩ := hs
    injection hs3 with hs3
    subst hs3
    obtain ⟨p, q, h1, h2, _⟩ := hd
    obtain ⟨xs, hf, hv⟩ := arg_fit (μ := μ) hs1 (hval 0 t v rfl rfl) h1
    obtain ⟨ys, hys, hl, hdl, hvs⟩ := args_fit hs2 (fun j t v ht hv => hval (j + 1) t v (by simpa using ht) (by simpa using hv)) h2
    refine ⟨argOf s xs :: ys, .cons hf hys, by simp [hl], by simp [hdl], fun i y hy => ?_⟩
    cases i with
    | zero => simp at hy; subst hy; exact hv
    | succ i => simpa using hvs i y (by simpa using hy)
  | [], [], _ :: _, _, _, _, _, hd => by cases hd
  | [], _ :: _, _, _, _, _, _, hd => by cases hd
  | _ :: _, [], _, _, _, _, _, hd => by cases hd
  | _ :: _, _ :: _, [], _, _, _, _, hd => by cases hd

theorem trodAll_lt {ts : List TypeId} {vs : List Value} {ds : List (DataW H)} {ps : List MemPlace} (h : DataW.TrodAll enc P w 0 (fun _ => true) true ts vs ds ps) : ∀ p ∈ ps, p.block < w.heap.size := by
  induction ts generalizing vs ds ps with
  | nil =>
    cases vs <;> cases ds <;> first | (simp only [DataW.TrodAll] at h; subst h; intro p hp; cases hp) | cases h
  | cons t ts ih =>
    cases vs with
    | nil => cases h
    | cons v vs =>
      cases ds with
      | nil => cases h
      | cons d ds =>
        obtain ⟨p, q, ⟨fuel, h1⟩, h2, rfl⟩ := h
        intro x hx
        rcases List.mem_append.1 hx with hx | hx
        · exact DataW.trod_lt _ _ _ _ h1 x hx
        · exact ih h2 x hx

theorem trodAll_below {w' : World} {ts : List TypeId} (hl : laidOutB P = true) (hts : ts.all (fun t => P.readableRec t && decide (t < P.types.size)) = true) (hb : Below w.heap.size w w') : ∀ {vs : List Value} {ds : List (DataW H)} {ps : List MemPlace},
    DataW.TrodAll enc P w 0 (fun _ => true) true ts vs ds ps → DataW.TrodAll enc P w' 0 (fun b => decide (b < w.heap.size)) true ts vs ds ps := by
  induction ts with
  | nil => intro vs ds ps h; cases vs <;> cases ds <;> exact h
  | cons t ts ih =>
    intro vs ds ps h
    have hlt := trodAll_lt h
    cases vs with
    | nil => cases h
    | cons v vs =>
      cases ds with
      | nil => cases h
      | cons d ds =>
        obtain ⟨p, q, h1, h2, rfl⟩ := h
        simp only [List.all_cons, Bool.and_eq_true, decide_eq_true_eq] at hts
        exact ⟨p, q, Below.trod hl hts.1.1 hts.1.2 h1 hb (fun x hx => hlt x (List.mem_append_left _ hx)), ih (by simpa using hts.2) h2, rfl⟩

/-- THE ROW's CONTRACT out of the abstract call. -/
theorem law_post {f : FuncId} {fn : Func} {s : ChangeSpec} {ss : List Sh} {tb : TypeId} {base : Nat} {args : Array Value} {ds gs : List (DataW H)} {before : List MemPlace} {fresh handsOn : Bool} (hl : laidOutB P = true) (hvars : s.vars = []) (hts : fn.params.toList.all (fun t => P.readableRec t && decide (t < P.types.size)) = true)
    (hsh : fn.params.toList.mapM (shOf P 20) = some ss) (hres : fn.resultTypes = #[tb]) (hb : P.underlying tb = some .bool) (hfn : ∀ (ds : List (DataW H)), ds.length = fn.params.toList.length → s.fn H ds = { results := [.lit (.bool true)], args := ds })
    (hval : ∀ (j : Nat) t v, fn.params[j]? = some t → args[j]? = some v → Value.okWide P w .any base t v) (hW : DataW.Whole enc P fn.params.toList s.vars false w args.toList ds gs before)
    (hcall : ∀ ys, ArgsFit ss ys → Call P f ys [] Nowhere (fun x _ => x = .bool true)) (hgl : GL (fun B => B < w.heap.size) w := by exact ⟨fun p hp => (by cases hp), fun g hg => (by cases hg)⟩) :
    Calls P f args w fun e w' => ∃ v, e = .returned v ∧ s.post enc P fn false fresh handsOn false w args v w' := by
  have hW' := hW
  obtain ⟨p, q, hA, hV, hbe, hfz, hnd⟩ := hW
  obtain ⟨ys, hys, hyl, hdl, hvs⟩ := args_fit (μ := []) hsh (fun j t v h1 h2 => hval j t v (by simpa using h1) (by simpa using h2)) hA
  have hHR : HR (fun B => B < w.heap.size) w [] [] := ⟨rfl, fun b o h => by simp at h, fun b h => by simp at h, fun b b' m m' h => by simp at h, fun b m h => by simp at h, fun B h => h, hgl⟩
  refine ((hcall ys hys).2 _ w [] args hHR ⟨by simpa using hyl, fun i y hy => by simpa [List.getD_eq_getElem?_getD, Array.getD_eq_getD_getElem?] using hvs i y hy⟩).mono ?_
  rintro e w' ⟨v, x, h', S', μ', rfl, rfl, hv, hr', hs⟩
  have hv := hv.bool_
  subst hv
  have hbel : Below w.heap.size w w' := ⟨hs.os, hs.tape, hs.output, hs.size, fun k hk => hs.blk k hk⟩
  rw [hvars] at hV
  have hg : gs = [] ∧ q = [] := by
    cases gs with
    | nil => exact ⟨rfl, hV⟩
    | cons g gs => cases hV
  obtain ⟨rfl, rfl⟩ := hg
  refine ⟨_, rfl, ds, [], before, [], p, [], hW', ?_, ?_, ?_, hbel.frame _, fun h => by cases h⟩
  · rw [List.append_nil, hfn ds hdl, hres]
    exact trodAll_mk1 (shut_bool hb _)
  · rw [List.append_nil, hfn ds hdl]
    exact trodAll_below hl hts hbel hA
  · rw [List.append_nil, hfn ds hdl, hvars]
    rfl
end
end Go.Proofs.YtbkcenkfecndjaaGreatDoor.M
