/-
  A slice of the call's own that grows.
-/
import Derived.Test.YtbkcenkfecndjaaGreatDoorM11
namespace Go.Proofs.YtbkcenkfecndjaaGreatDoor.M
open Go Go.RowKit
set_option linter.unusedVariables false
set_option linter.unusedSimpArgs false

/-- Behind h nothing but what is new; v is a slice of the call's own with these cells. -/
def Gr (h h' : H) (sz : Nat) (v : AV) (n : Nat) (L : List AV) : Prop :=
  (∃ p, h' = h ++ p) ∧ L.length = n * sz ∧ ((v = .nils ∧ n = 0) ∨ ∃ b kc cs, h.length ≤ b ∧ v = .sl b 0 sz n kc ∧ n ≤ kc ∧ kc * sz ≤ cs.length ∧ h'.cells b = some cs ∧ cs.take (n * sz) = L)

theorem Gr.nil {h h' : H} {sz : Nat} (hp : ∃ p, h' = h ++ p) : Gr h h' sz .nils 0 [] := ⟨hp, by simp, .inl ⟨rfl, rfl⟩⟩
theorem Gr.refl {h : H} {sz : Nat} : Gr h h sz .nils 0 [] := Gr.nil ⟨[], by simp⟩

theorem cells_app {h l : H} {b : Nat} {cs : List AV} (hc : H.cells h b = some cs) : H.cells (h ++ l) b = some cs := by
  rw [cells_eq] at hc ⊢
  have hlt : b < h.length := by
    rcases Nat.lt_or_ge b h.length with hh | hh
    · exact hh
    · rw [List.getElem?_eq_none hh] at hc
      cases hc
  rw [List.getElem?_append_left hlt]
  exact hc
theorem cells_lt {h : H} {b : Nat} {cs : List AV} (hc : H.cells h b = some cs) : b < h.length := by
  rw [cells_eq] at hc
  rcases Nat.lt_or_ge b h.length with hh | hh
  · exact hh
  · rw [List.getElem?_eq_none hh] at hc
    cases hc
theorem Gr.more {h h' l : H} {sz n : Nat} {v : AV} {L : List AV} (hg : Gr h h' sz v n L) : Gr h (h' ++ l) sz v n L := by
  obtain ⟨⟨p, rfl⟩, hl, hv⟩ := hg
  refine ⟨⟨p ++ l, by simp⟩, hl, ?_⟩
  rcases hv with hv | ⟨b, kc, cs, h1, h2, h3, h4, h5, h6⟩
  · exact .inl hv
  · exact .inr ⟨b, kc, cs, h1, h2, h3, h4, cells_app h5, h6⟩

theorem set_ge {h p : H} {b : Nat} {x : Option AObj} (hb : h.length ≤ b) : (h ++ p).set b x = h ++ p.set (b - h.length) x := List.set_append_right _ _ hb

theorem Gr.app {h h' : H} {sz n k by_ : Nat} {v : AV} {L new : List AV} {pm : Nat → Prop} {Q : AV → H → Prop} (hg : Gr h h' sz v n L) (hpm : ∀ b, h.length ≤ b → pm b) (hn : new.length = k * sz) (hk : k ≠ 0) (hb : (n + k) * by_ ≤ 140737488355328)
    (hQ : ∀ v' h'', Gr h h'' sz v' (n + k) (L ++ new) → Q v' h'') : apA pm h' Q sz by_ (some (new, k)) v := by
  obtain ⟨⟨p, rfl⟩, hl, hv⟩ := hg
  have hlen : (L ++ new).length = (n + k) * sz := by rw [List.length_append, hl, hn, Nat.add_mul]
  rcases hv with ⟨rfl, rfl⟩ | ⟨b, kc, cs, h1, rfl, h3, h4, h5, h6⟩
  · have hL : L = [] := List.eq_nil_of_length_eq_zero (by simpa using hl)
    subst hL
    rw [apA_nil hk]
    refine ⟨by simpa using hb, hQ _ _ ⟨⟨p ++ [some (.cells new)], by simp⟩, hlen, .inr ⟨(h ++ p).length, k, new, by simp, by simp, by omega, Nat.le_of_eq hn.symm, by rw [cells_eq]; simp [cellsO], ?_⟩⟩⟩
    simp [← hn]
  · rw [apA_sl, h5]
    have hle : n * sz ≤ kc * sz := Nat.mul_le_mul_right _ h3
    by_cases hf : n + k ≤ kc
    · have hle2 : (n + k) * sz ≤ kc * sz := Nat.mul_le_mul_right _ hf
      have hadd : (n + k) * sz = n * sz + k * sz := Nat.add_mul _ _ _
      rw [apC_fit hk hf]
      refine ⟨by omega, hpm b h1, by omega, hQ _ _ ⟨⟨_, set_ge h1⟩, hlen, .inr ⟨b, kc, over cs (0 + n * sz) new, h1, rfl, hf, ?_, ?_, ?_⟩⟩⟩
      · rw [over_len (by omega)]
        exact h4
      · rw [cells_eq]
        unfold wr
        rw [List.getElem?_set_self (cells_lt h5)]
        rfl
      · unfold over
        rw [Nat.zero_add, h6, hadd, ← hn]
        rw [List.take_append_of_le_length (by rw [List.length_append, hl]; omega), List.take_of_length_le (by rw [List.length_append, hl]; omega)]
    · rw [apC_grow hk (by omega)]
      refine ⟨by omega, hpm b h1, hb, hQ _ _ ⟨⟨p.set (b - h.length) none ++ [some (.cells ((cs.drop 0).take (n * sz) ++ new))], ?_⟩, hlen, .inr ⟨(h ++ p).length, n + k, (cs.drop 0).take (n * sz) ++ new, by simp, rfl, by omega, ?_, ?_, ?_⟩⟩⟩
      · unfold killed
        rw [set_ge h1, List.append_assoc]
      · rw [List.drop_zero, h6, hlen]
        exact Nat.le_refl _
      · rw [cells_eq, List.getElem?_append_right (by simp [killed])]
        simp [killed, cellsO]
      · rw [List.drop_zero, h6, ← hlen, List.take_length]

/-- The same, behind other new blocks: they stay; so does what is not the slice's own block. -/
theorem Gr.app2 {h h' l : H} {sz n k by_ : Nat} {v : AV} {L new : List AV} {pm : Nat → Prop} {Q : AV → H → Prop} (hg : Gr h h' sz v n L) (hpm : ∀ b, h.length ≤ b → pm b) (hn : new.length = k * sz) (hk : k ≠ 0) (hb : (n + k) * by_ ≤ 140737488355328)
    (hQ : ∀ v' p' q, h'.length = p'.length → (∀ b', (∀ o s m c, v ≠ .sl b' o s m c) → p'[b']? = h'[b']?) → Gr h (p' ++ (l ++ q)) sz v' (n + k) (L ++ new) → Q v' (p' ++ (l ++ q))) : apA pm (h' ++ l) Q sz by_ (some (new, k)) v := by
  obtain ⟨⟨p, rfl⟩, hl, hv⟩ := hg
  have hlen : (L ++ new).length = (n + k) * sz := by rw [List.length_append, hl, hn, Nat.add_mul]
  rcases hv with ⟨rfl, rfl⟩ | ⟨b, kc, cs, h1, rfl, h3, h4, h5, h6⟩
  · have hL : L = [] := List.eq_nil_of_length_eq_zero (by simpa using hl)
    subst hL
    rw [apA_nil hk]
    refine ⟨by simpa using hb, ?_⟩
    have := hQ (.sl (h ++ p ++ l).length 0 sz k k) (h ++ p) [some (.cells new)] rfl (fun _ _ => rfl) ⟨⟨p ++ (l ++ [some (.cells new)]), by simp⟩, hlen, .inr ⟨(h ++ p ++ l).length, k, new, by simp, by simp, by omega, Nat.le_of_eq hn.symm, by rw [← List.append_assoc, cells_eq]; simp [cellsO], by simp [← hn]⟩⟩
    simpa using this
  · have hblt := cells_lt h5
    rw [apA_sl, cells_app h5]
    have hle : n * sz ≤ kc * sz := Nat.mul_le_mul_right _ h3
    have hne : ∀ b', (∀ o s m c, AV.sl b 0 sz n kc ≠ .sl b' o s m c) → b' ≠ b := fun b' hh he => hh 0 sz n kc (by rw [he])
    by_cases hf : n + k ≤ kc
    · have hle2 : (n + k) * sz ≤ kc * sz := Nat.mul_le_mul_right _ hf
      have hadd : (n + k) * sz = n * sz + k * sz := Nat.add_mul _ _ _
      rw [apC_fit hk hf]
      refine ⟨by omega, hpm b h1, by omega, ?_⟩
      have hw : wr (h ++ p ++ l) b (over cs (0 + n * sz) new) = (h ++ p).set b (some (.cells (over cs (0 + n * sz) new))) ++ (l ++ []) := by
        unfold wr
        rw [List.set_append_left _ _ hblt, List.append_nil]
      rw [hw]
      refine hQ _ _ _ (by simp) (fun b' hb' => List.getElem?_set_ne (fun he => hne b' hb' he.symm)) ⟨⟨p.set (b - h.length) _ ++ (l ++ []), by rw [set_ge h1, List.append_assoc]⟩, hlen, .inr ⟨b, kc, over cs (0 + n * sz) new, h1, rfl, hf, ?_, ?_, ?_⟩⟩
      · rw [over_len (by omega)]
        exact h4
      · refine cells_app ?_
        rw [cells_eq, List.getElem?_set_self hblt]
        rfl
      · unfold over
        rw [Nat.zero_add, h6, hadd, ← hn]
        rw [List.take_append_of_le_length (by rw [List.length_append, hl]; omega), List.take_of_length_le (by rw [List.length_append, hl]; omega)]
    · rw [apC_grow hk (by omega)]
      refine ⟨by omega, hpm b h1, hb, ?_⟩
      have hw : killed (h ++ p ++ l) b ++ [some (.cells ((cs.drop 0).take (n * sz) ++ new))] = (h ++ p).set b none ++ (l ++ [some (.cells ((cs.drop 0).take (n * sz) ++ new))]) := by
        unfold killed
        rw [List.set_append_left _ _ hblt, List.append_assoc]
      rw [hw]
      refine hQ _ _ _ (by simp) (fun b' hb' => List.getElem?_set_ne (fun he => hne b' hb' he.symm)) ⟨⟨p.set (b - h.length) none ++ (l ++ [some (.cells ((cs.drop 0).take (n * sz) ++ new))]), by rw [set_ge h1, List.append_assoc]⟩, hlen, .inr ⟨(h ++ p ++ l).length, n + k, (cs.drop 0).take (n * sz) ++ new, by simp, rfl, by omega, ?_, ?_, ?_⟩⟩
      · rw [List.drop_zero, h6, hlen]
        exact Nat.le_refl _
      · have e : (h ++ p ++ l).length = ((h ++ p).set b none ++ l).length := by simp only [List.length_append, List.length_set]
        rw [← List.append_assoc, cells_eq, e, List.getElem?_append_right (Nat.le_refl _), Nat.sub_self]
        rfl
      · rw [List.drop_zero, h6, ← hlen, List.take_length]

/-- What is seen of it. -/
theorem Gr.vw {h h' : H} {sz n : Nat} {v : AV} {L : List AV} (hg : Gr h h' sz v n L) (h1 : L.all one = true) (hf : ∀ c ∈ L, Free c) : (n = 0 ∧ Vw h' h.length v .nils) ∨ Vw h' h.length v (.ro sz L n) := by
  obtain ⟨⟨p, rfl⟩, hl, hv⟩ := hg
  rcases hv with ⟨rfl, rfl⟩ | ⟨b, kc, cs, g1, rfl, g3, g4, g5, g6⟩
  · exact .inl ⟨rfl, .free free_nils⟩
  · refine .inr ?_
    have hle : n * sz ≤ kc * sz := Nat.mul_le_mul_right _ g3
    refine .sl g1 g5 (by omega) hl h1 (fun i y t hy ht => ?_)
    rw [Nat.zero_add] at hy
    have : L[i]? = some y := by
      rw [← g6, List.getElem?_take]
      rw [if_pos]
      · exact hy
      · rw [← hl]
        exact (List.getElem?_eq_some_iff.1 ht).1
    rw [this] at ht
    injection ht with ht
    subst ht
    exact .free (hf _ (List.mem_of_getElem? this))
theorem Gr.vwI {h h' : H} {v : AV} {l : List Int} (hg : Gr h h' 1 v l.length (l.map (.int .i64))) : ∃ o, Vw h' h.length v (eI o) ∧ lI o = l := by
  rcases hg.vw (one_map fun _ => rfl) (free_map_ fun _ => free_int) with ⟨h1, h2⟩ | h2
  · exact ⟨none, h2, (List.eq_nil_of_length_eq_zero h1).symm⟩
  · exact ⟨some l, h2, rfl⟩
theorem Gr.vwS {h h' : H} {v : AV} {l : List Str} (hg : Gr h h' 1 v l.length (l.map .str)) : ∃ o, Vw h' h.length v (eS o) ∧ lS o = l := by
  rcases hg.vw (one_map fun _ => rfl) (free_map_ fun _ => free_str) with ⟨h1, h2⟩ | h2
  · exact ⟨none, h2, (List.eq_nil_of_length_eq_zero h1).symm⟩
  · exact ⟨some l, h2, rfl⟩
/-! ### lending, argument by argument -/
inductive Lend (h : H) : List AV → List AV → Prop
  | nil : Lend h [] []
  | cons {x t : AV} {xs ts : List AV} (hx : Vw h 0 x t) (hr : Lend h xs ts) : Lend h (x :: xs) (t :: ts)
theorem Lend.free {h : H} {x : AV} {xs ts : List AV} (hf : Free x) (hr : Lend h xs ts) : Lend h (x :: xs) (x :: ts) := .cons (.free hf) hr
theorem vw_adr {h : H} {n b off : Nat} {cs : List AV} (hb : n ≤ b) (hc : H.cells h b = some cs) (hf : ∀ c ∈ cs, Free c) : Vw h n (.adr b off) (.rad cs off) :=
  .adr hb hc rfl (fun i y t hy ht => by
    rw [ht] at hy
    injection hy with hy
    subst hy
    exact .free (hf _ (List.mem_of_getElem? ht)))
theorem Lend.adr {h : H} {b off : Nat} {cs xs ts : List AV} (hc : H.cells h b = some cs) (hf : ∀ c ∈ cs, Free c) (hr : Lend h xs ts) : Lend h (.adr b off :: xs) (.rad cs off :: ts) := .cons (vw_adr (Nat.zero_le _) hc hf) hr
theorem Lend.len {h : H} {xs ts : List AV} (hl : Lend h xs ts) : xs.length = ts.length := by
  induction hl with
  | nil => rfl
  | cons _ _ ih => simp [ih]
theorem Lend.get {h : H} {xs ts : List AV} (hl : Lend h xs ts) : ∀ (i : Nat) (x t : AV), xs[i]? = some x → ts[i]? = some t → Vw h 0 x t := by
  induction hl with
  | nil => intro i x t hx; simp at hx
  | cons hx _ ih =>
    intro i y u hy hu
    cases i with
    | zero =>
      simp at hy hu
      subst hy hu
      exact hx
    | succ i => exact ih i y u (by simpa using hy) (by simpa using hu)
theorem Fn.lendL {P : Program} {f : FuncId} {args ts : List AV} {h : H} {pm : Nat → Prop} {r : AV} {Q : AV → H → Prop} (hf : Fn P f ts (· = r)) (hl : Lend h args ts) (ho : Own h.length r) (hQ : Q r h) : Call P f args h pm Q :=
  hf.lend hl.len hl.get (fun x hx => by rw [hx]; exact ho) (fun x hx => by rw [hx]; exact hQ)

theorem Fn.froze_ {P : Program} {f : FuncId} {args : List AV} {R : AV → Prop} (hc : ∀ h, Call P f args h Nowhere (fun x h' => ∃ t, Vw h' h.length x t ∧ R t)) : Fn P f args R := fun h => Call.freeze (hc h)
/-! ### a map that is a set of numbers -/
def mapO : Option (Option AObj) → Option (List (AV × AV))
  | some (some (.map es)) => some es
  | _ => none
theorem mapO_some {es : List (AV × AV)} : mapO (some (some (.map es))) = some es := (rfl)
theorem mapOf_eq {h : H} {b : Nat} : h.mapOf b = mapO h[b]? := by
  unfold H.mapOf mapO
  rfl
theorem mapOf_h0 {h l : H} : H.mapOf (h ++ l) h.length = mapO l[0]? := by
  rw [mapOf_eq, List.getElem?_append_right (Nat.le_refl _), Nat.sub_self]
theorem mapOf_hk {h l : H} {k : Nat} : H.mapOf (h ++ l) (h.length + k) = mapO l[k]? := by
  rw [mapOf_eq, List.getElem?_append_right (by omega), Nat.add_sub_cancel_left]
def lookC (z k : AV) (ok : Bool) : Option (List (AV × AV)) → Option AV
  | some es => if isIntK k && es.all (fun p => isIntK p.1) then some (if ok then .tup [(mget es k).getD z, .bool (mget es k).isSome] else (mget es k).getD z) else none
  | none => none
def lookA (h : H) (z k : AV) (ok : Bool) : AV → Option AV
  | .mp b => lookC z k ok (h.mapOf b)
  | _ => none
theorem ev0_look {e : Env} {h : H} {z : AV} {x k : Opd} {ok : Bool} : ev0 e h (.look z x k ok) = lookA h z (evO e k) ok (evO e x) := by
  simp only [ev0]
  generalize evO e x = v
  cases v with
  | mp b =>
    simp only [lookA]
    cases H.mapOf h b <;> rfl
  | _ => rfl
theorem lookA_mp {h : H} {z k : AV} {ok : Bool} {b : Nat} : lookA h z k ok (.mp b) = lookC z k ok (h.mapOf b) := (rfl)
section
variable {pm : Nat → Prop} {e : Env} {h : H} {Q : AV → H → Prop}
theorem ev1_mkm : ev1 pm e h Q .mkm = Q (.mp h.length) (h ++ [some (.map [])]) := (rfl)
def msC (h : H) (Q : AV → H → Prop) (b : Nat) (k v : AV) : Option (List (AV × AV)) → Prop
  | some es => isIntK k = true ∧ es.all (fun p => isIntK p.1) = true ∧ Q unset (h.set b (some (.map (mput k v es))))
  | none => False
def msA (pm : Nat → Prop) (h : H) (Q : AV → H → Prop) (k v : AV) : AV → Prop
  | .mp b => pm b ∧ msC h Q b k v (h.mapOf b)
  | _ => False
theorem ev1_mset {m k v : Opd} : ev1 pm e h Q (.mset m k v) = msA pm h Q (evO e k) (evO e v) (evO e m) := by
  simp only [ev1]
  generalize evO e m = x
  cases x with
  | mp b =>
    simp only [msA, msC]
    cases H.mapOf h b <;> rfl
  | _ => rfl
theorem msA_mp {k v : AV} {b : Nat} : msA pm h Q k v (.mp b) = (pm b ∧ msC h Q b k v (h.mapOf b)) := (rfl)
end
/-- The numbers of a set, in the order in which they came. -/
def mset (l : List Int) : List (AV × AV) := l.map fun n => (.int .i64 n, .bool true)
theorem mset_all {l : List Int} : (mset l).all (fun p => isIntK p.1) = true := by
  rw [List.all_eq_true]
  intro p hp
  obtain ⟨n, _, rfl⟩ := List.mem_map.1 hp
  rfl
theorem mget_mset {l : List Int} {n : Int} : mget (mset l) (.int .i64 n) = if n ∈ l then some (.bool true) else none := by
  induction l with
  | nil => rfl
  | cons a l ih =>
    unfold mget mset at ih ⊢
    rw [List.map_cons, List.find?_cons]
    by_cases hn : n = a
    · subst hn
      simp [sameKey]
    · have : sameKey (.int .i64 n) (.int .i64 a) = false := by simp [sameKey, hn]
      rw [this]
      simp only [List.mem_cons, hn, false_or]
      exact ih
theorem mput_mset {l : List Int} {n : Int} (hn : n ∉ l) : mput (.int .i64 n) (.bool true) (mset l) = mset (l ++ [n]) := by
  induction l with
  | nil => rfl
  | cons a l ih =>
    simp only [List.mem_cons, not_or] at hn
    have : sameKey (.int .i64 n) (.int .i64 a) = false := by simp [sameKey, hn.1]
    unfold mset at ih ⊢
    rw [List.map_cons, mput, this]
    simp only [List.cons_append, List.map_cons]
    rw [← ih hn.2]
    rfl
theorem lookC_set {l : List Int} {n : Int} : lookC (.bool false) (.int .i64 n) false (some (mset l)) = some (.bool (decide (n ∈ l))) := by
  simp only [lookC, mset_all, mget_mset]
  by_cases hn : n ∈ l <;> simp [hn, isIntK]
theorem msC_set {h : H} {Q : AV → H → Prop} {b : Nat} {l : List Int} {n : Int} (hn : n ∉ l) : msC h Q b (.int .i64 n) (.bool true) (some (mset l)) = Q unset (h.set b (some (.map (mset (l ++ [n]))))) := by
  simp only [msC, mset_all, mput_mset hn]
  simp [isIntK]
theorem set_h0 {h l : H} {x : Option AObj} : List.set (h ++ l) h.length x = h ++ l.set 0 x := by
  rw [List.set_append_right _ _ (Nat.le_refl _), Nat.sub_self]
attribute [push_cast] mapO_some mapOf_h0 mapOf_hk ev0_look lookA_mp ev1_mkm ev1_mset msA_mp lookC_set msC_set set_h0
end Go.Proofs.YtbkcenkfecndjaaGreatDoor.M
