/-
  Blocks of the call's own that are handed to a callee for good: from then on they are only read.
-/
import Derived.Test.YtbkcenkfecndjaaGreatDoorM17
namespace Go.Proofs.YtbkcenkfecndjaaGreatDoor.M
open Go Go.RowKit
set_option linter.unusedVariables false
/-- Those of a row at the places of D; the others are gone. -/
def filt {α : Type} (D : Nat → Bool) (l : List (Option α)) : List (Option α) := (List.range l.length).map fun i => if D i then l.getD i none else none
theorem filt_len {α : Type} {D : Nat → Bool} {l : List (Option α)} : (filt D l).length = l.length := by simp [filt]
theorem filt_t {α : Type} {D : Nat → Bool} {l : List (Option α)} {b : Nat} (hb : D b = true) : (filt D l)[b]? = l[b]? := by
  unfold filt
  rw [List.getElem?_map]
  by_cases hlt : b < l.length
  · simp [hlt, hb]
  · simp [hlt]
theorem filt_f {α : Type} {D : Nat → Bool} {l : List (Option α)} {b : Nat} (hb : D b = false) (hlt : b < l.length) : (filt D l)[b]? = some none := by
  unfold filt
  rw [List.getElem?_map]
  simp [hlt, hb]
theorem filt_some {α : Type} {D : Nat → Bool} {l : List (Option α)} {b : Nat} {x : α} (h : (filt D l)[b]? = some (some x)) : D b = true ∧ l[b]? = some (some x) := by
  cases hb : D b
  · by_cases hlt : b < l.length
    · rw [filt_f hb hlt] at h
      cases h
    · rw [List.getElem?_eq_none (by rw [filt_len]; omega)] at h
      cases h
  · rw [filt_t hb] at h
    exact ⟨rfl, h⟩
theorem Fwd.filt {S w μ} (D : Nat → Bool) : Fwd S w μ S w (filt D μ) :=
  ⟨fun _ h => h, fun _ _ => rfl, by rw [filt_len]; exact Nat.le_refl _, fun b hb => by
    cases hd : D b
    · exact .inr (filt_f hd hb)
    · exact .inl (filt_t hd)⟩
theorem HR.filt {S w μ h} (hr : HR S w μ h) (D : Nat → Bool) : HR S w (filt D μ) (M.filt D h) := by
  refine ⟨by rw [filt_len, filt_len, hr.len], fun b o hb => ?_, fun b hb => ?_, fun b b' m m' hm hm' he => ?_, fun b m hm => ?_, hr.lt, hr.gl⟩
  · obtain ⟨h1, h2⟩ := filt_some hb
    obtain ⟨m, hm, ho⟩ := hr.obj b o h2
    exact ⟨m, (filt_t h1).trans hm, ho.fwd (Fwd.filt D) rfl⟩
  · have hlt : b < h.length := by
      have := (List.getElem?_eq_some_iff.1 hb).1
      rwa [filt_len] at this
    cases hd : D b
    · exact filt_f hd (by rw [hr.len]; exact hlt)
    · rw [filt_t hd] at hb ⊢
      exact hr.dead b hb
  · exact hr.inj b b' m m' (filt_some hm).2 (filt_some hm').2 he
  · exact hr.out b m (filt_some hm).2
/-- WHAT IS HANDED OVER FOR GOOD: blocks of the call's own, which the callee sees as rows that are only read. -/
theorem Call.sink {P f args ts h W} {Q : AV → H → Prop} (D : Nat → Bool) (hl : args.length = ts.length) (hv : ∀ (i : Nat) (x t : AV), args[i]? = some x → ts[i]? = some t → x = t ∨ Vw (M.filt D h) 0 x t)
    (hW : ∀ b, b < h.length → D b = true → W b) (hc : Call P f ts (M.filt (fun b => !D b) h) W Q) : Call P f args h W Q := by
  refine ⟨hc.1, fun S w μ cargs hr ha => ?_⟩
  have hf : Fwd S w μ (Kept S (M.filt D μ) 0) w (M.filt (fun b => !D b) μ) := ⟨fun B hB => .inl hB, fun _ _ => rfl, by rw [filt_len]; exact Nat.le_refl _, (Fwd.filt (S := S) (w := w) (μ := μ) fun b => !D b).mu⟩
  have hr1 := hr.filt D
  have hr2 := hr.filt fun b => !D b
  have hHR : HR (Kept S (M.filt D μ) 0) w (M.filt (fun b => !D b) μ) (M.filt (fun b => !D b) h) := by
    refine ⟨hr2.len, fun b o hb => ?_, hr2.dead, hr2.inj, fun b m hm hk => ?_, kept_lt hr1, hr.gl.fwd (fun B hB => .inl hB) (fun _ _ => rfl)⟩
    · obtain ⟨h1, h2⟩ := filt_some hb
      obtain ⟨m, hm, hom⟩ := hr.obj b o h2
      exact ⟨m, (filt_t h1).trans hm, hom.fwd hf rfl⟩
    · obtain ⟨h1, h2⟩ := filt_some hm
      rcases hk with hk | ⟨b', m', _, hm', he⟩
      · exact hr.out b m h2 hk
      · obtain ⟨h3, h4⟩ := filt_some hm'
        have := hr.inj b' b m' m h4 h2 he
        subst this
        rw [h3] at h1
        cases h1
  refine (hc.2 _ w _ cargs hHR ⟨by rw [ha.1, hl], fun i t ht => ?_⟩).mono ?_
  · have hlt : i < args.length := by rw [hl]; exact (List.getElem?_eq_some_iff.1 ht).1
    have hx := ha.2 i _ (List.getElem?_eq_getElem hlt)
    rcases hv i _ t (List.getElem?_eq_getElem hlt) ht with he | hvw
    · rw [he] at hx
      exact hx.fwd hf
    · exact hvw.sound hr1 _ (hx.fwd (Fwd.filt D))
  · rintro e w' ⟨v, x, h', S', μ', rfl, hQ, hvx, hr', hs⟩
    refine ⟨v, x, h', S', μ', rfl, hQ, hvx, hr', ⟨⟨fun B hB => hs.s B (.inl hB), fun B hB => hs.blk B (.inl hB), ?_, fun b hb => ?_⟩, hs.size, hs.os, hs.output, hs.tape, hs.drawn, fun b hb hnW => ?_⟩⟩
    · have := hs.len
      rwa [filt_len] at this
    · have := hs.mu b (by rw [filt_len]; exact hb)
      cases hd : D b
      · rw [filt_t (by simp [hd])] at this
        exact this
      · rw [filt_f (by simp [hd]) hb] at this
        exact .inr (by rcases this with h5 | h5 <;> exact h5)
    · cases hd : D b
      · have := hs.kept b (by rw [filt_len]; exact hb) hnW
        rw [filt_t (by simp [hd])] at this
        exact this
      · exact absurd (hW b (by rw [← hr.len]; exact hb) hd) hnW
theorem resOf_c {e : Env} {h : H} {ag : Bool} {sz n : Nat} : resOf e h (.cell ag sz n) = loadAdr h ag sz (e n) := by
  simp only [resOf]
  generalize e n = v
  cases v <;> rfl
def endC2 (Q : AV → H → Prop) (h : H) (y : AV) : Option AV → Prop
  | some x => Q (.tup [x, y]) h
  | none => False
theorem endC2_some {Q : AV → H → Prop} {h : H} {x y : AV} : endC2 Q h y (some x) = Q (.tup [x, y]) h := (rfl)
/-- A result in a cell and one that is told. -/
theorem Ends_ct {n sz k : Nat} {ag : Bool} {Q : AV → H → Prop} {e : Env} {h : H} : Ends [.cell ag sz n, .t k] Q .ret e h = endC2 Q h (e k) (loadAdr h ag sz (e n)) := by
  have hE : Ends [.cell ag sz n, .t k] Q .ret e h = (match resV [.cell ag sz n, .t k] e h with | some x => Q x h | none => False) := rfl
  rw [hE]
  have hr : resV [.cell ag sz n, .t k] e h = (resOf e h (.cell ag sz n)).map fun x => .tup [x, e k] := by
    simp only [resV, List.mapM_cons, List.mapM_nil]
    have : resOf e h (.t k) = some (e k) := rfl
    rw [this]
    cases resOf e h (.cell ag sz n) <;> rfl
  rw [hr, resOf_c]
  cases loadAdr h ag sz (e n) <;> rfl
def endC3 (Q : AV → H → Prop) (h : H) : Option AV → Option AV → Prop
  | some x, some y => Q (.tup [x, y]) h
  | _, _ => False
theorem endC3_some {Q : AV → H → Prop} {h : H} {x y : AV} : endC3 Q h (some x) (some y) = Q (.tup [x, y]) h := (rfl)
theorem Ends_cc {n sz n2 sz2 : Nat} {ag ag2 : Bool} {Q : AV → H → Prop} {e : Env} {h : H} : Ends [.cell ag sz n, .cell ag2 sz2 n2] Q .ret e h = endC3 Q h (loadAdr h ag sz (e n)) (loadAdr h ag2 sz2 (e n2)) := by
  have hE : Ends [.cell ag sz n, .cell ag2 sz2 n2] Q .ret e h = (match resV [.cell ag sz n, .cell ag2 sz2 n2] e h with | some x => Q x h | none => False) := rfl
  rw [hE]
  have hr : resV [.cell ag sz n, .cell ag2 sz2 n2] e h = (resOf e h (.cell ag sz n)).bind fun x => (resOf e h (.cell ag2 sz2 n2)).map fun y => .tup [x, y] := by
    simp only [resV, List.mapM_cons, List.mapM_nil]
    cases resOf e h (.cell ag sz n) <;> cases resOf e h (.cell ag2 sz2 n2) <;> rfl
  rw [hr, resOf_c, resOf_c]
  cases loadAdr h ag sz (e n) <;> cases loadAdr h ag2 sz2 (e n2) <;> rfl
attribute [push_cast] Ends_ct endC2_some Ends_cc endC3_some
/-! ### a cut: what is known behind a part of the code -/
def CQ (R : Env → H → Prop) : Ex → Env → H → Prop
  | .normal => R
  | _ => fun _ _ => False
theorem CQ_n {R : Env → H → Prop} {e : Env} {h : H} : CQ R .normal e h = R e h := (rfl)
theorem T_cut {P : Program} {pm : Nat → Prop} {c : RCode} {Q : Ex → Env → H → Prop} {e : Env} {h : H} (R : Env → H → Prop) (h1 : T P pm c (K P pm [] (CQ R)) e h) (h2 : ∀ e h, R e h → Q .normal e h) : T P pm c Q e h := by
  refine T_mono ?_ h1
  intro x e h hq
  cases x with
  | normal => exact h2 e h hq
  | exit i => exact hq.elim
  | ret => exact hq.elim
attribute [push_cast] CQ_n
end Go.Proofs.YtbkcenkfecndjaaGreatDoor.M
