/-
  Regions that have many orders: the tree of their orders need not be written out.
-/
import Derived.Test.YtdkgoaiodjokpaaGreatM20
namespace Go.Proofs.YtdkgoaiodjokpaaGreat.M
open Go Go.RowKit
set_option linter.unusedVariables false
set_option linter.unusedSimpArgs false
def noRead : ROp → Bool
  | .v (.cbs _) | .v (.load ..) | .v (.look ..) => false
  | _ => true
theorem noRead_nil {e : Env} {o : ROp} (h : noRead o = true) : readsO e o = [] := by
  cases o with
  | v o => cases o <;> first | rfl | (simp [noRead] at h)
  | _ => rfl
def edgesOn (o : Oper) : List Nat := (o.after.toList.filter fun e => Region.binds .any e).map (·.on)
theorem allT_some {f : Nat → Option RT} {Ψ : RT → Prop} (hb : ∀ a b, Ψ a → Ψ b → Ψ (.both a b)) : ∀ {l : List Nat}, l ≠ [] → (∀ i ∈ l, ∃ t, f i = some t ∧ Ψ t) → ∃ t, allT f l = some t ∧ Ψ t
  | [], h, _ => absurd rfl h
  | [i], _, h => h i (by simp)
  | i :: j :: r, _, h => by
    obtain ⟨a, ha, hpa⟩ := h i (by simp)
    obtain ⟨b, hb2, hpb⟩ := allT_some hb (l := j :: r) (by simp) fun k hk => h k (by simp [List.mem_cons.1 hk])
    exact ⟨.both a b, by simp only [allT, ha, hb2, Option.bind_some, Option.map_some], hb a b hpa hpb⟩
theorem getD_arr {l : Array Bool} {i j : Nat} (hi : i < l.size) (hj : j < l.size) {d : Bool} : (l.setIfInBounds i true).getD j d = if j = i then true else l.getD j d := by
  rw [Array.getD_eq_getD_getElem?, Array.getD_eq_getD_getElem?, Array.getElem?_setIfInBounds]
  by_cases h : i = j
  · subst h
    simp [hi]
  · rw [if_neg h, if_neg (Ne.symm h)]
theorem getD_any {l : Array Bool} {j : Nat} (hj : j < l.size) (d d' : Bool) : l.getD j d = l.getD j d' := by
  rw [Array.getD_eq_getD_getElem?, Array.getD_eq_getD_getElem?, Array.getElem?_eq_getElem hj]
  rfl
theorem filter_less {l S : List Nat} {i : Nat} (hi : i ∈ l) (hS : i ∉ S) : (l.filter fun j => decide (j ∉ i :: S)).length < (l.filter fun j => decide (j ∉ S)).length := by
  have h1 : (l.filter fun j => decide (j ∉ i :: S)) = (l.filter fun j => decide (j ∉ S)).filter fun j => decide (j ≠ i) := by
    rw [List.filter_filter]
    congr 1
    funext j
    simp [List.mem_cons, not_or]
  rw [h1]
  exact List.length_filter_lt_length_iff_exists.2 ⟨i, List.mem_filter.2 ⟨hi, by simpa using hS⟩, by simp⟩
theorem planT_any {P : Program} {N : Nat} {ops : Array Oper} {OP : List (RO × List Nat)} {pm : Nat → Prop} {K : Env → H → Prop} {Φ : List Nat → Env → H → Prop}
    (hlen : OP.length = ops.size)
    (h1 : ∀ (i : Nat) (p : RO × List Nat), OP[i]? = some p → (ops[i]?).bind (rOper P N ops) = some p.1)
    (h2 : ∀ (i : Nat) (p : RO × List Nat) (o : Oper), OP[i]? = some p → ops[i]? = some o → edgesOn o = p.2)
    (h3 : ∀ (i : Nat) (p : RO × List Nat), OP[i]? = some p → ∀ j ∈ p.2, j < i)
    (h4 : ∀ (i : Nat) (p : RO × List Nat), OP[i]? = some p → floats P N ops i = true → noRead p.1.op = true)
    (hg : ∀ (i : Nat) (p : RO × List Nat), OP[i]? = some p → p.1.guard = none)
    (hstep : ∀ (i : Nat) (p : RO × List Nat), OP[i]? = some p → ∀ S e h, i ∉ S → S.length < OP.length → (∀ j ∈ p.2, j ∈ S) → Φ S e h → TOp P (fun b => pm b ∧ b ∉ ([] : List Nat)) e h (fun x h' => Φ (i :: S) (e.put p.1.dst x) h') p.1.op)
    (hend : ∀ S e h, S.length ≤ OP.length → (∀ i, i < OP.length → i ∈ S) → Φ S e h → K e h) :
    ∀ (fuel : Nat) (listed : Array Bool) (S : List Nat), listed.size = ops.size → (∀ i, i < ops.size → (listed.getD i true = true ↔ i ∈ S)) → S.length + fuel = ops.size → ((List.range ops.size).filter fun j => decide (j ∉ S)).length ≤ fuel →
      ∃ t, planT P N ops fuel listed = some t ∧ ∀ e h, Φ S e h → TD P pm t [] K e h := by
  have rd : ∀ (listed : Array Bool) (S : List Nat), listed.size = ops.size → (∀ i, i < ops.size → (listed.getD i true = true ↔ i ∈ S)) → ∀ i, i ∈ Region.ready .any ops listed ↔ ∃ p, OP[i]? = some p ∧ i ∉ S ∧ ∀ j ∈ p.2, j ∈ S := by
    intro listed S hs hS i
    unfold Region.ready
    rw [List.mem_filter, List.mem_range]
    constructor
    · rintro ⟨hi, hb⟩
      rw [Bool.and_eq_true, Bool.not_eq_true'] at hb
      have hp : OP[i]? = some (OP[i]'(by omega)) := List.getElem?_eq_getElem _
      have ho : ops[i]? = some (ops[i]'hi) := Array.getElem?_eq_getElem _
      refine ⟨_, hp, fun hh => ?_, fun j hj => ?_⟩
      · rw [(hS i hi).2 hh] at hb
        cases hb.1
      · have hji := h3 i _ hp j hj
        rw [← h2 i _ _ hp ho] at hj
        obtain ⟨e, he, rfl⟩ := List.mem_map.1 hj
        obtain ⟨he1, he2⟩ := List.mem_filter.1 he
        have hb2 := hb.2
        rw [ho, Option.map_some, Option.getD_some, Array.all_eq_true_iff_forall_mem] at hb2
        have := hb2 e (by simpa using he1)
        rw [he2, Bool.not_true, Bool.false_or, getD_any (by omega) false true] at this
        exact (hS _ (by omega)).1 this
    · rintro ⟨p, hp, hi, hj⟩
      have hil : i < OP.length := (List.getElem?_eq_some_iff.1 hp).1
      have hi2 : i < ops.size := by omega
      have ho : ops[i]? = some (ops[i]'hi2) := Array.getElem?_eq_getElem _
      refine ⟨hi2, ?_⟩
      rw [Bool.and_eq_true, Bool.not_eq_true', ho, Option.map_some, Option.getD_some, Array.all_eq_true_iff_forall_mem]
      refine ⟨?_, fun e he => ?_⟩
      · cases hb : listed.getD i true with
        | false => rfl
        | true => exact absurd ((hS i hi2).1 hb) hi
      · cases hbe : Region.binds .any e with
        | false => rfl
        | true =>
          have hm : e.on ∈ p.2 := by
            rw [← h2 i _ _ hp ho]
            exact List.mem_map.2 ⟨e, List.mem_filter.2 ⟨by simpa using he, hbe⟩, rfl⟩
          have hlt := h3 i _ hp _ hm
          rw [Bool.not_true, Bool.false_or, getD_any (by omega) false true]
          exact (hS _ (by omega)).2 (hj _ hm)
  have allIn : ∀ (listed : Array Bool) (S : List Nat), listed.size = ops.size → (∀ i, i < ops.size → (listed.getD i true = true ↔ i ∈ S)) → Region.ready .any ops listed = [] → ∀ i, i < OP.length → i ∈ S := by
    intro listed S hs hS hr i
    induction i using Nat.strongRecOn with
    | _ i ih =>
      intro hi
      refine Classical.byContradiction fun hn => ?_
      have hp : OP[i]? = some (OP[i]'hi) := List.getElem?_eq_getElem _
      have : i ∈ Region.ready .any ops listed := (rd listed S hs hS i).2 ⟨_, hp, hn, fun j hj => ih j (h3 i _ hp j hj) (by have := h3 i _ hp j hj; omega)⟩
      rw [hr] at this
      cases this
  intro fuel
  induction fuel with
  | zero =>
    intro listed S hs hS hf hc
    have hall : ∀ i, i < OP.length → i ∈ S := fun i hi => by
      have h0 := List.eq_nil_of_length_eq_zero (Nat.le_zero.1 hc)
      refine Classical.byContradiction fun hn => ?_
      have : i ∈ (List.range ops.size).filter fun j => decide (j ∉ S) := List.mem_filter.2 ⟨List.mem_range.2 (by omega), by simpa using hn⟩
      rw [h0] at this
      cases this
    have hr : Region.ready .any ops listed = [] := by
      refine List.eq_nil_iff_forall_not_mem.2 fun i hi => ?_
      obtain ⟨p, hp, hn, _⟩ := (rd listed S hs hS i).1 hi
      exact hn (hall i (List.getElem?_eq_some_iff.1 hp).1)
    refine ⟨.done, by unfold planT; rw [if_pos hr], fun e h hp => hend S e h (by omega) hall hp⟩
  | succ k ih =>
    intro listed S hs hS hf hc
    have nxt : ∀ (i : Nat) (p : RO × List Nat), OP[i]? = some p → i ∉ S → ∃ t, planT P N ops k (listed.setIfInBounds i true) = some t ∧ ∀ e h, Φ (i :: S) e h → TD P pm t [] K e h := fun i p hp hn => by
      have hi : i < ops.size := by have := (List.getElem?_eq_some_iff.1 hp).1; omega
      refine ih _ (i :: S) (by simpa using hs) (fun j hj => ?_) (by simp; omega) ?_
      · rw [getD_arr (by omega) (by omega), List.mem_cons]
        by_cases hji : j = i
        · simp [hji]
        · rw [if_neg hji, hS j hj]
          simp [hji]
      · have := filter_less (l := List.range ops.size) (List.mem_range.2 hi) hn
        omega
    unfold planT
    split
    · rename_i hr
      exact ⟨.done, rfl, fun e h hp => hend S e h (by omega) (allIn listed S hs hS hr) hp⟩
    · rename_i r0 rs0 hready
      split
      · rename_i i hfind
        have hmem := List.mem_of_find?_eq_some hfind
        rw [← hready] at hmem
        obtain ⟨p, hp, hn, hd⟩ := (rd listed S hs hS i).1 hmem
        have hprop := List.find?_some hfind
        simp only [Bool.and_eq_true] at hprop
        obtain ⟨t, ht, hT⟩ := nxt i p hp hn
        refine ⟨.fl p.1 t, by rw [h1 i p hp, Option.bind_some, ht, Option.map_some], fun e h hphi => ?_⟩
        unfold TD
        rw [hg i p hp, if_pos (show want none e = true from rfl), noRead_nil (h4 i p hp hprop.1)]
        exact TOp_mono (fun x h' hx => hT _ _ hx) (hstep i p hp S e h hn (by omega) hd hphi)
      · refine allT_some (Ψ := fun t => ∀ e h, Φ S e h → TD P pm t [] K e h) (fun a b ha hb e h hp => ⟨ha e h hp, hb e h hp⟩) (by simp) fun i hi => ?_
        rw [← hready] at hi
        obtain ⟨p, hp, hn, hd⟩ := (rd listed S hs hS i).1 hi
        obtain ⟨t, ht, hT⟩ := nxt i p hp hn
        refine ⟨.nx p.1 t, by rw [h1 i p hp, Option.bind_some, ht, Option.map_some], fun e h hphi => ?_⟩
        unfold TD
        rw [hg i p hp, if_pos (show want none e = true from rfl)]
        exact TOp_mono (fun x h' hx => hT _ _ hx) (hstep i p hp S e h hn (by omega) hd hphi)
/-- What is asked of a region, told by looking. -/
structure RegOk (P : Program) (N : Nat) (ops : Array Oper) (OP : List (RO × List Nat)) : Prop where
  len : OP.length = ops.size
  op : ((List.range OP.length).map fun i => (ops[i]?).bind (rOper P N ops)) = OP.map fun p => some p.1
  ed : ops.toList.map edgesOn = OP.map (·.2)
  lt : ((List.range OP.length).all fun i => (OP[i]?.map fun p => p.2.all fun j => decide (j < i)).getD true) = true
  fl : ((List.range OP.length).all fun i => (OP[i]?.map fun p => !floats P N ops i || noRead p.1.op).getD true) = true
  gd : (OP.all fun p => p.1.guard.isNone) = true
theorem RegOk.any {P : Program} {N : Nat} {ops : Array Oper} {OP : List (RO × List Nat)} (hr : RegOk P N ops OP) {pm : Nat → Prop} {K : Env → H → Prop} {Φ : List Nat → Env → H → Prop}
    (hstep : ∀ (i : Nat) (p : RO × List Nat), OP[i]? = some p → ∀ S e h, i ∉ S → S.length < OP.length → (∀ j ∈ p.2, j ∈ S) → Φ S e h → TOp P (fun b => pm b ∧ b ∉ ([] : List Nat)) e h (fun x h' => Φ (i :: S) (e.put p.1.dst x) h') p.1.op)
    (hend : ∀ S e h, S.length ≤ OP.length → (∀ i, i < OP.length → i ∈ S) → Φ S e h → K e h) : ∃ t, planT P N ops ops.size (Array.replicate ops.size false) = some t ∧ ∀ e h, Φ [] e h → TD P pm t [] K e h := by
  have il : ∀ {i p}, OP[i]? = some p → i < OP.length := fun hp => (List.getElem?_eq_some_iff.1 hp).1
  refine planT_any hr.len (fun i p hp => ?_) (fun i p o hp ho => ?_) (fun i p hp j hj => ?_) (fun i p hp hf => ?_) (fun i p hp => ?_) hstep hend ops.size _ [] (by simp) (fun i hi => ?_) (by simp) ?_
  · have := congrArg (fun l => l[i]?) hr.op
    simp only [List.getElem?_map, List.getElem?_range (il hp), hp, Option.map_some] at this
    injection this
  · have := congrArg (fun l => l[i]?) hr.ed
    simp only [List.getElem?_map, hp, Option.map_some, Array.getElem?_toList, ho] at this
    injection this
  · have := List.all_eq_true.1 hr.lt i (List.mem_range.2 (il hp))
    rw [hp, Option.map_some, Option.getD_some] at this
    exact of_decide_eq_true (List.all_eq_true.1 this j hj)
  · have := List.all_eq_true.1 hr.fl i (List.mem_range.2 (il hp))
    rw [hp, Option.map_some, Option.getD_some, hf, Bool.not_true, Bool.false_or] at this
    exact this
  · have := List.all_eq_true.1 hr.gd p (List.mem_of_getElem? hp)
    exact Option.isNone_iff_eq_none.1 this
  · rw [Array.getD_eq_getD_getElem?]
    simp [hi]
  · exact Nat.le_trans (List.length_filter_le _ _) (by simp)
/-! ### a function, one region of which is not written out -/
def regs : Code → List (Array Oper)
  | .region _ ops true => [ops]
  | .seq a b => regs a ++ regs b
  | .cond _ a b => regs a ++ regs b
  | .block _ c => regs c
  | .loop c => regs c
  | _ => []
def rCodeB (B : Array Oper → Option RT) (P : Program) (N : Nat) : Code → Option RCode
  | .skip => some .skip
  | .region _ ops false => ((List.range ops.size).mapM fun i => (ops[i]?).bind (rOper P N ops)).map .reg
  | .region _ ops true => if Region.noSelect ops = true ∧ P.follows .mixedOrders = true then (match B ops with | some t => some (.dreg t) | none => (planT P N ops ops.size (Array.replicate ops.size false)).map .dreg) else none
  | .seq a b => (rCodeB B P N a).bind fun a => (rCodeB B P N b).map fun b => .seq a b
  | .cond c a b => (rOpd N c).bind fun c => (rCodeB B P N a).bind fun a => (rCodeB B P N b).map fun b => .cond c a b
  | .block id c => (rCodeB B P N c).map fun c => .block id c
  | .loop c => (rCodeB B P N c).map .loop
  | .exit i => some (.exit i)
  | .ret => some .ret
  | _ => some .dead
theorem rCodeB_eq {B : Array Oper → Option RT} {P : Program} {N : Nat} : ∀ {c : Code}, (∀ ops ∈ regs c, ∀ t, B ops = some t → planT P N ops ops.size (Array.replicate ops.size false) = some t) → rCodeB B P N c = rCode P N c := by
  intro c
  induction c with
  | region id ops dr =>
    intro hB
    cases dr with
    | false => rfl
    | true =>
      simp only [rCodeB, rCode]
      split
      · cases hb : B ops with
        | none => rfl
        | some t => simp only [hB ops (by simp [regs]) t hb, Option.map_some]
      · rfl
  | seq a b iha ihb =>
    intro hB
    simp only [rCodeB, rCode, iha fun o ho => hB o (by simp [regs, ho]), ihb fun o ho => hB o (by simp [regs, ho])]
  | cond x a b iha ihb =>
    intro hB
    simp only [rCodeB, rCode, iha fun o ho => hB o (by simp [regs, ho]), ihb fun o ho => hB o (by simp [regs, ho])]
  | block id c ih =>
    intro hB
    simp only [rCodeB, rCode, ih fun o ho => hB o (by simpa [regs] using ho)]
  | loop c ih =>
    intro hB
    simp only [rCodeB, rCode, ih fun o ho => hB o (by simpa [regs] using ho)]
  | _ => intro hB; rfl
def rFuncB (B : Array Oper → Option RT) (P : Program) (fn : Func) : Option RFunc :=
  fn.body.bind fun c => (fn.results.toList.mapM (rRes P fn.ntmps)).bind fun rs => (rCodeB B P fn.ntmps c).map fun b => ⟨fn.ntmps, rs, b⟩
def regsOf (fn : Func) (n : Nat) : List (Array Oper) := match fn.body with
  | some c => (regs c).filter fun o => o.size == n
  | none => []
/-- The region of n operations of a function. -/
def regOf (fn : Func) (n : Nat) : Array Oper := (regsOf fn n).headD #[]
def treeOf (P : Program) (fn : Func) (n : Nat) : RT := (planT P fn.ntmps (regOf fn n) (regOf fn n).size (Array.replicate (regOf fn n).size false)).getD .done
def bigAt (n : Nat) (t : RT) (ops : Array Oper) : Option RT := if ops.size == n then some t else none
theorem treeOf_eq {P : Program} {fn : Func} {n : Nat} {OP : List (RO × List Nat)} (hr : RegOk P fn.ntmps (regOf fn n) OP) : planT P fn.ntmps (regOf fn n) (regOf fn n).size (Array.replicate (regOf fn n).size false) = some (treeOf P fn n) := by
  obtain ⟨t, ht, _⟩ := hr.any (pm := fun _ => True) (K := fun _ _ => True) (Φ := fun _ _ _ => False) (fun _ _ _ _ _ _ _ _ _ h => h.elim) (fun _ _ _ _ _ h => h.elim)
  unfold treeOf
  rw [ht]
  rfl
theorem treeOf_any {P : Program} {fn : Func} {n : Nat} {OP : List (RO × List Nat)} (hr : RegOk P fn.ntmps (regOf fn n) OP) {pm : Nat → Prop} {K : Env → H → Prop} {Φ : List Nat → Env → H → Prop}
    (hstep : ∀ (i : Nat) (p : RO × List Nat), OP[i]? = some p → ∀ S e h, i ∉ S → S.length < OP.length → (∀ j ∈ p.2, j ∈ S) → Φ S e h → TOp P (fun b => pm b ∧ b ∉ ([] : List Nat)) e h (fun x h' => Φ (i :: S) (e.put p.1.dst x) h') p.1.op)
    (hend : ∀ S e h, S.length ≤ OP.length → (∀ i, i < OP.length → i ∈ S) → Φ S e h → K e h) {e : Env} {h : H} (h0 : Φ [] e h) : TD P pm (treeOf P fn n) [] K e h := by
  obtain ⟨t, ht, hT⟩ := hr.any hstep hend
  have h1 := treeOf_eq hr
  rw [ht] at h1
  injection h1 with h1
  rw [← h1]
  exact hT e h h0
/-- The tie of a function of which one region is not written out. -/
theorem rFunc_big {P : Program} {fn : Func} {n : Nat} {OP : List (RO × List Nat)} {r : RFunc} (hr : RegOk P fn.ntmps (regOf fn n) OP) (h1 : (regsOf fn n).length = 1) (hb : rFuncB (bigAt n (treeOf P fn n)) P fn = some r) : rFunc P fn = some r := by
  rw [← hb]
  unfold rFunc rFuncB
  cases hc : fn.body with
  | none => rfl
  | some c =>
    simp only [Option.bind_some]
    rw [rCodeB_eq fun ops ho t ht => ?_]
    unfold bigAt at ht
    split at ht
    · rename_i hsz
      injection ht with ht
      have hm : ops ∈ regsOf fn n := by
        unfold regsOf
        rw [hc]
        exact List.mem_filter.2 ⟨ho, hsz⟩
      have he : ops = regOf fn n := by
        unfold regOf
        match hl : regsOf fn n, h1, hm with
        | [x], _, hm => exact List.mem_singleton.1 hm
      rw [he, ← ht]
      exact treeOf_eq hr
    · cases ht
end Go.Proofs.YtdkgoaiodjokpaaGreat.M
