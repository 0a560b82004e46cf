/-
  Memory of the call's own, as a tree: what is seen of it, what it leans on, how a part of it is put over; functions that return such.
-/
import Derived.Test.YtgkdnpigbpkehaaM18
namespace Go.Proofs.Ytgkdnpigbpkehaa.M
open Go Go.RowKit
set_option linter.unusedVariables false
set_option linter.unusedSimpArgs false
def atom : AV → Bool
  | .int .. | .bool _ | .str _ | .nils | .nilp | .nili => true
  | _ => false
theorem atom_free {x : AV} (h : atom x = true) : Free x := by
  cases x <;> first | exact free_int | exact free_bool | exact free_str | exact free_nils | exact free_nilp | exact free_nili | simp [atom] at h
theorem atom_own {x : AV} {n : Nat} (h : atom x = true) : Own n x := by
  cases x <;> first | exact own_int | exact own_bool | exact own_str | exact own_nils | exact own_nilp | exact own_nili | simp [atom] at h
/-- The cells cs, seen as ts, lean on blocks of G alone, each block on one path. -/
inductive Ow (h : H) : List AV → List AV → (Nat → Prop) → Prop
  | nil {G : Nat → Prop} : Ow h [] [] G
  | atom {x : AV} {cs ts : List AV} {G : Nat → Prop} (ha : atom x = true) (hr : Ow h cs ts G) : Ow h (x :: cs) (x :: ts) G
  | sl {b sz len : Nat} {cs ts cs' ts' : List AV} {F F' G : Nat → Prop} (hc : h.cells b = some cs) (hl : cs.length = len * sz) (h1 : ts.all one = true) (hi : Ow h cs ts F) (hr : Ow h cs' ts' F') (hb : G b)
      (hF : ∀ c, F c → G c ∧ c ≠ b) (hF' : ∀ c, F' c → G c ∧ c ≠ b ∧ ¬ F c) : Ow h (.sl b 0 sz len len :: cs') (.ro sz ts len :: ts') G
  | agg {cs ts cs' ts' : List AV} {F F' G : Nat → Prop} (hi : Ow h cs ts F) (hr : Ow h cs' ts' F') (hF : ∀ c, F c → G c) (hF' : ∀ c, F' c → G c ∧ ¬ F c) : Ow h (.agg cs :: cs') (.agg ts :: ts') G
  | tup {cs ts cs' ts' : List AV} {F F' G : Nat → Prop} (hi : Ow h cs ts F) (hr : Ow h cs' ts' F') (hF : ∀ c, F c → G c) (hF' : ∀ c, F' c → G c ∧ ¬ F c) : Ow h (.tup cs :: cs') (.tup ts :: ts') G
theorem Ow.len {h : H} {cs ts : List AV} {G : Nat → Prop} (ho : Ow h cs ts G) : ts.length = cs.length := by
  induction ho with
  | nil => rfl
  | atom _ _ ih => simp [ih]
  | sl _ _ _ _ _ _ _ _ _ ih => simp [ih]
  | agg _ _ _ _ _ ih => simp [ih]
  | tup _ _ _ _ _ ih => simp [ih]
theorem Ow.mono {h : H} {cs ts : List AV} {G G' : Nat → Prop} (ho : Ow h cs ts G) (hG : ∀ c, G c → G' c) : Ow h cs ts G' := by
  induction ho generalizing G' with
  | nil => exact .nil
  | atom ha _ ih => exact .atom ha (ih hG)
  | sl hc hl h1 hi hr hb hF hF' _ _ => exact .sl hc hl h1 hi hr (hG _ hb) (fun c hc => ⟨hG _ (hF c hc).1, (hF c hc).2⟩) (fun c hc => ⟨hG _ (hF' c hc).1, (hF' c hc).2⟩)
  | agg hi hr hF hF' _ _ => exact .agg hi hr (fun c hc => hG _ (hF c hc)) (fun c hc => ⟨hG _ (hF' c hc).1, (hF' c hc).2⟩)
  | tup hi hr hF hF' _ _ => exact .tup hi hr (fun c hc => hG _ (hF c hc)) (fun c hc => ⟨hG _ (hF' c hc).1, (hF' c hc).2⟩)
theorem cells_keep_ {h h' : H} {b : Nat} {cs : List AV} (hk : h'[b]? = h[b]?) (hc : h.cells b = some cs) : h'.cells b = some cs := by
  rw [cells_eq, hk, ← cells_eq]
  exact hc
theorem Ow.frame {h h' : H} {cs ts : List AV} {G : Nat → Prop} (ho : Ow h cs ts G) (hk : ∀ c, G c → h'[c]? = h[c]?) : Ow h' cs ts G := by
  induction ho with
  | nil => exact .nil
  | atom ha _ ih => exact .atom ha (ih hk)
  | sl hc hl h1 hi hr hb hF hF' ih1 ih2 => exact .sl (cells_keep_ (hk _ hb) hc) hl h1 (ih1 fun c hc => hk c (hF c hc).1) (ih2 fun c hc => hk c (hF' c hc).1) hb hF hF'
  | agg hi hr hF hF' ih1 ih2 => exact .agg (ih1 fun c hc => hk c (hF c hc)) (ih2 fun c hc => hk c (hF' c hc).1) hF hF'
  | tup hi hr hF hF' ih1 ih2 => exact .tup (ih1 fun c hc => hk c (hF c hc)) (ih2 fun c hc => hk c (hF' c hc).1) hF hF'
/-- What is seen of it. -/
theorem Ow.vw {h : H} {n0 : Nat} {cs ts : List AV} {G : Nat → Prop} (ho : Ow h cs ts G) (hG : ∀ c, G c → n0 ≤ c) : ∀ (i : Nat) (y t : AV), cs[i]? = some y → ts[i]? = some t → Vw h n0 y t := by
  induction ho with
  | nil => intro i y t hy; simp at hy
  | atom ha _ ih =>
    intro i y t hy ht
    cases i with
    | zero =>
      simp at hy ht
      subst hy ht
      exact .free (atom_free ha)
    | succ i => exact ih hG i y t (by simpa using hy) (by simpa using ht)
  | sl hc hl h1 hi hr hb hF hF' ih1 ih2 =>
    intro i y t hy ht
    cases i with
    | zero =>
      simp at hy ht
      subst hy ht
      refine .sl (hG _ hb) hc (by omega) (by rw [hi.len, hl]) h1 (fun i y t hy ht => ?_)
      rw [Nat.zero_add] at hy
      exact ih1 (fun c hc => hG c (hF c hc).1) i y t hy ht
    | succ i => exact ih2 (fun c hc => hG c (hF' c hc).1) i y t (by simpa using hy) (by simpa using ht)
  | agg hi hr hF hF' ih1 ih2 =>
    intro i y t hy ht
    cases i with
    | zero =>
      simp at hy ht
      subst hy ht
      exact .agg hi.len (ih1 fun c hc => hG c (hF c hc))
    | succ i => exact ih2 (fun c hc => hG c (hF' c hc).1) i y t (by simpa using hy) (by simpa using ht)
  | tup hi hr hF hF' ih1 ih2 =>
    intro i y t hy ht
    cases i with
    | zero =>
      simp at hy ht
      subst hy ht
      exact .tup hi.len (ih1 fun c hc => hG c (hF c hc))
    | succ i => exact ih2 (fun c hc => hG c (hF' c hc).1) i y t (by simpa using hy) (by simpa using ht)
theorem Ow.vw1 {h : H} {n0 : Nat} {x t : AV} {G : Nat → Prop} (ho : Ow h [x] [t] G) (hG : ∀ c, G c → n0 ≤ c) : Vw h n0 x t := ho.vw hG 0 x t rfl rfl
theorem Ow.vw0 {h : H} {x t : AV} {G : Nat → Prop} (ho : Ow h [x] [t] G) : Vw h 0 x t := ho.vw1 fun _ _ => Nat.zero_le _
theorem Ow.own {h : H} {n0 : Nat} {cs ts : List AV} {G : Nat → Prop} (ho : Ow h cs ts G) (hG : ∀ c, G c → n0 ≤ c) : ∀ y ∈ cs, Own n0 y := by
  induction ho with
  | nil => intro y hy; cases hy
  | atom ha _ ih =>
    intro y hy
    rcases List.mem_cons.1 hy with rfl | hy
    · exact atom_own ha
    · exact ih hG y hy
  | sl hc hl h1 hi hr hb hF hF' ih1 ih2 =>
    intro y hy
    rcases List.mem_cons.1 hy with rfl | hy
    · exact own_sl (hG _ hb)
    · exact ih2 (fun c hc => hG c (hF' c hc).1) y hy
  | agg hi hr hF hF' ih1 ih2 =>
    intro y hy
    rcases List.mem_cons.1 hy with rfl | hy
    · exact own_agg (ih1 fun c hc => hG c (hF c hc))
    · exact ih2 (fun c hc => hG c (hF' c hc).1) y hy
  | tup hi hr hF hF' ih1 ih2 =>
    intro y hy
    rcases List.mem_cons.1 hy with rfl | hy
    · exact own_tup (ih1 fun c hc => hG c (hF c hc))
    · exact ih2 (fun c hc => hG c (hF' c hc).1) y hy
/-- The blocks that it leans on indeed. -/
theorem Ow.exact_ {h : H} {n0 : Nat} {cs ts : List AV} {G : Nat → Prop} (ho : Ow h cs ts G) (hG : ∀ c, G c → n0 ≤ c) :
    ∃ U : Nat → Prop, (∀ c, U c → G c) ∧ (∀ c, U c → ∃ l, h.cells c = some l ∧ ∀ y ∈ l, Own n0 y) ∧ ∀ h' : H, (∀ c, U c → h'[c]? = h[c]?) → Ow h' cs ts U := by
  induction ho with
  | nil => exact ⟨fun _ => False, fun _ h => h.elim, fun _ h => h.elim, fun _ _ => .nil⟩
  | atom ha _ ih =>
    obtain ⟨U, u1, u2, u3⟩ := ih hG
    exact ⟨U, u1, u2, fun h' hk => .atom ha (u3 h' hk)⟩
  | @sl b sz len cs ts cs' ts' F F' G hc hl h1 hi hr hb hF hF' ih1 ih2 =>
    obtain ⟨U, u1, u2, u3⟩ := ih1 fun c hc => hG c (hF c hc).1
    obtain ⟨V, v1, v2, v3⟩ := ih2 fun c hc => hG c (hF' c hc).1
    refine ⟨fun c => c = b ∨ U c ∨ V c, ?_, ?_, fun h' hk => ?_⟩
    · rintro c (rfl | hu | hv)
      · exact hb
      · exact (hF c (u1 c hu)).1
      · exact (hF' c (v1 c hv)).1
    · rintro c (rfl | hu | hv)
      · exact ⟨_, hc, hi.own fun c hc => hG c (hF c hc).1⟩
      · exact u2 c hu
      · exact v2 c hv
    · exact .sl (cells_keep_ (hk b (.inl rfl)) hc) hl h1 (u3 h' fun c hc => hk c (.inr (.inl hc))) (v3 h' fun c hc => hk c (.inr (.inr hc))) (.inl rfl) (fun c hc => ⟨.inr (.inl hc), (hF c (u1 c hc)).2⟩) (fun c hc => ⟨.inr (.inr hc), (hF' c (v1 c hc)).2.1, fun hu => (hF' c (v1 c hc)).2.2 (u1 c hu)⟩)
  | @agg cs ts cs' ts' F F' G hi hr hF hF' ih1 ih2 =>
    obtain ⟨U, u1, u2, u3⟩ := ih1 fun c hc => hG c (hF c hc)
    obtain ⟨V, v1, v2, v3⟩ := ih2 fun c hc => hG c (hF' c hc).1
    refine ⟨fun c => U c ∨ V c, ?_, ?_, fun h' hk => ?_⟩
    · rintro c (hu | hv)
      · exact hF c (u1 c hu)
      · exact (hF' c (v1 c hv)).1
    · rintro c (hu | hv)
      · exact u2 c hu
      · exact v2 c hv
    · exact .agg (u3 h' fun c hc => hk c (.inl hc)) (v3 h' fun c hc => hk c (.inr hc)) (fun c hc => .inl hc) (fun c hc => ⟨.inr hc, fun hu => (hF' c (v1 c hc)).2 (u1 c hu)⟩)
  | @tup cs ts cs' ts' F F' G hi hr hF hF' ih1 ih2 =>
    obtain ⟨U, u1, u2, u3⟩ := ih1 fun c hc => hG c (hF c hc)
    obtain ⟨V, v1, v2, v3⟩ := ih2 fun c hc => hG c (hF' c hc).1
    refine ⟨fun c => U c ∨ V c, ?_, ?_, fun h' hk => ?_⟩
    · rintro c (hu | hv)
      · exact hF c (u1 c hu)
      · exact (hF' c (v1 c hv)).1
    · rintro c (hu | hv)
      · exact u2 c hu
      · exact v2 c hv
    · exact .tup (u3 h' fun c hc => hk c (.inl hc)) (v3 h' fun c hc => hk c (.inr hc)) (fun c hc => .inl hc) (fun c hc => ⟨.inr hc, fun hu => (hF' c (v1 c hc)).2 (u1 c hu)⟩)
/-! ### parts -/
theorem Ow.app {h : H} {cs ts cs' ts' : List AV} {F F' G : Nat → Prop} (h1 : Ow h cs ts F) (h2 : Ow h cs' ts' F') (hF : ∀ c, F c → G c) (hF' : ∀ c, F' c → G c ∧ ¬ F c) : Ow h (cs ++ cs') (ts ++ ts') G := by
  induction h1 generalizing G F' with
  | nil => exact h2.mono fun c hc => (hF' c hc).1
  | atom ha _ ih => exact .atom ha (ih h2 hF hF')
  | @sl b sz len cs ts cs2 ts2 F0 F2 F hc hl h1 hi hr hb hA hB ih1 ih2 =>
    have := ih2 (G := fun c => F2 c ∨ F' c) h2 (fun c hc => .inl hc) (fun c hc => ⟨.inr hc, fun hf => (hF' c hc).2 (hB c hf).1⟩)
    refine .sl hc hl h1 hi this (hF _ hb) (fun c hc => ⟨hF c (hA c hc).1, (hA c hc).2⟩) ?_
    rintro c (hc | hc)
    · exact ⟨hF c (hB c hc).1, (hB c hc).2⟩
    · exact ⟨(hF' c hc).1, fun he => (hF' c hc).2 (he ▸ hb), fun hf => (hF' c hc).2 (hA c hf).1⟩
  | @agg cs ts cs2 ts2 F0 F2 F hi hr hA hB ih1 ih2 =>
    have := ih2 (G := fun c => F2 c ∨ F' c) h2 (fun c hc => .inl hc) (fun c hc => ⟨.inr hc, fun hf => (hF' c hc).2 (hB c hf).1⟩)
    refine .agg hi this (fun c hc => hF c (hA c hc)) ?_
    rintro c (hc | hc)
    · exact ⟨hF c (hB c hc).1, (hB c hc).2⟩
    · exact ⟨(hF' c hc).1, fun hf => (hF' c hc).2 (hA c hf)⟩
  | @tup cs ts cs2 ts2 F0 F2 F hi hr hA hB ih1 ih2 =>
    have := ih2 (G := fun c => F2 c ∨ F' c) h2 (fun c hc => .inl hc) (fun c hc => ⟨.inr hc, fun hf => (hF' c hc).2 (hB c hf).1⟩)
    refine .tup hi this (fun c hc => hF c (hA c hc)) ?_
    rintro c (hc | hc)
    · exact ⟨hF c (hB c hc).1, (hB c hc).2⟩
    · exact ⟨(hF' c hc).1, fun hf => (hF' c hc).2 (hA c hf)⟩
/-- One cell of them: it leans on a part; whatever leans on that part can be put there. -/
theorem Ow.focus {h : H} {cs ts : List AV} {G : Nat → Prop} (ho : Ow h cs ts G) : ∀ {i : Nat} {y t : AV}, cs[i]? = some y → ts[i]? = some t →
    ∃ F : Nat → Prop, (∀ c, F c → G c) ∧ Ow h [y] [t] F ∧ ∀ (h' : H) (y' t' : AV), Ow h' [y'] [t'] F → (∀ c, G c → ¬ F c → h'[c]? = h[c]?) → Ow h' (cs.set i y') (ts.set i t') G := by
  induction ho with
  | nil => intro i y t hy; simp at hy
  | @atom x cs ts G ha hr ih =>
    intro i y t hy ht
    cases i with
    | zero =>
      simp at hy ht
      subst hy ht
      refine ⟨fun _ => False, fun _ h => h.elim, .atom ha .nil, fun h' y' t' h1 hk => ?_⟩
      have h2 := hr.frame fun c hc => hk c hc (fun h => h)
      exact Ow.app (cs := [y']) (ts := [t']) h1 h2 (fun _ h => h.elim) (fun c hc => ⟨hc, fun h => h⟩)
    | succ i =>
      obtain ⟨F, f1, f2, f3⟩ := ih (by simpa using hy) (by simpa using ht)
      exact ⟨F, f1, f2, fun h' y' t' h1 hk => .atom ha (f3 h' y' t' h1 hk)⟩
  | @sl b sz len cs ts cs' ts' F F' G hc hl h1 hi hr hb hF hF' ih1 ih2 =>
    intro i y t hy ht
    cases i with
    | zero =>
      simp at hy ht
      subst hy ht
      refine ⟨fun c => c = b ∨ F c, ?_, .sl hc hl h1 hi .nil (.inl rfl) (fun c hc => ⟨.inr hc, (hF c hc).2⟩) (fun c (hc : False) => hc.elim), fun h' y' t' g1 hk => ?_⟩
      · rintro c (rfl | hf)
        · exact hb
        · exact (hF c hf).1
      have h2 := hr.frame fun c hc => hk c (hF' c hc).1 (fun hh => by
        rcases hh with hh | hh
        · exact (hF' c hc).2.1 hh
        · exact (hF' c hc).2.2 hh)
      refine Ow.app (cs := [y']) (ts := [t']) g1 h2 ?_ (fun c hc => ⟨(hF' c hc).1, fun hh => ?_⟩)
      · rintro c (rfl | hf)
        · exact hb
        · exact (hF c hf).1
      · rcases hh with hh | hh
        · exact (hF' c hc).2.1 hh
        · exact (hF' c hc).2.2 hh
    | succ i =>
      obtain ⟨F2, f1, f2, f3⟩ := ih2 (by simpa using hy) (by simpa using ht)
      refine ⟨F2, fun c hc => (hF' c (f1 c hc)).1, f2, fun h' y' t' g1 hk => ?_⟩
      have nF : ∀ c, F c → ¬ F2 c := fun c hc h2 => (hF' c (f1 c h2)).2.2 hc
      exact .sl (cells_keep_ (hk b hb fun h2 => (hF' b (f1 b h2)).2.1 rfl) hc) hl h1 (hi.frame fun c hc => hk c (hF c hc).1 (nF c hc)) (f3 h' y' t' g1 fun c hc hn => hk c (hF' c hc).1 hn) hb hF hF'
  | @agg cs ts cs' ts' F F' G hi hr hF hF' ih1 ih2 =>
    intro i y t hy ht
    cases i with
    | zero =>
      simp at hy ht
      subst hy ht
      refine ⟨F, hF, .agg hi .nil (fun c hc => hc) (fun c (hc : False) => hc.elim), fun h' y' t' g1 hk => ?_⟩
      have h2 := hr.frame fun c hc => hk c (hF' c hc).1 (hF' c hc).2
      exact Ow.app (cs := [y']) (ts := [t']) g1 h2 hF hF'
    | succ i =>
      obtain ⟨F2, f1, f2, f3⟩ := ih2 (by simpa using hy) (by simpa using ht)
      refine ⟨F2, fun c hc => (hF' c (f1 c hc)).1, f2, fun h' y' t' g1 hk => ?_⟩
      exact .agg (hi.frame fun c hc => hk c (hF c hc) fun h2 => (hF' c (f1 c h2)).2 hc) (f3 h' y' t' g1 fun c hc hn => hk c (hF' c hc).1 hn) hF hF'
  | @tup cs ts cs' ts' F F' G hi hr hF hF' ih1 ih2 =>
    intro i y t hy ht
    cases i with
    | zero =>
      simp at hy ht
      subst hy ht
      refine ⟨F, hF, .tup hi .nil (fun c hc => hc) (fun c (hc : False) => hc.elim), fun h' y' t' g1 hk => ?_⟩
      have h2 := hr.frame fun c hc => hk c (hF' c hc).1 (hF' c hc).2
      exact Ow.app (cs := [y']) (ts := [t']) g1 h2 hF hF'
    | succ i =>
      obtain ⟨F2, f1, f2, f3⟩ := ih2 (by simpa using hy) (by simpa using ht)
      refine ⟨F2, fun c hc => (hF' c (f1 c hc)).1, f2, fun h' y' t' g1 hk => ?_⟩
      exact .tup (hi.frame fun c hc => hk c (hF c hc) fun h2 => (hF' c (f1 c h2)).2 hc) (f3 h' y' t' g1 fun c hc hn => hk c (hF' c hc).1 hn) hF hF'
/-- A slice of it, opened. -/
theorem Ow.open_ {h : H} {x : AV} {sz len : Nat} {ts : List AV} {G : Nat → Prop} (ho : Ow h [x] [.ro sz ts len] G) :
    ∃ (b : Nat) (cs : List AV) (F : Nat → Prop), x = .sl b 0 sz len len ∧ h.cells b = some cs ∧ cs.length = len * sz ∧ G b ∧ (∀ c, F c → G c ∧ c ≠ b) ∧ Ow h cs ts F ∧
      ∀ (h' : H) (cs' ts' : List AV), h'.cells b = some cs' → Ow h' cs' ts' F → cs'.length = len * sz → ts'.all one = true → Ow h' [x] [.ro sz ts' len] G := by
  cases ho with
  | atom ha _ => simp [M.atom] at ha
  | sl hc hl h1 hi hr hb hF hF' => exact ⟨_, _, _, rfl, hc, hl, hb, hF, hi, fun h' cs' ts' g1 g2 g3 g4 => .sl g1 g3 g4 g2 .nil hb hF (fun c (hc : False) => hc.elim)⟩
theorem Ow.openAgg {h : H} {x : AV} {ts : List AV} {G : Nat → Prop} (ho : Ow h [x] [.agg ts] G) : ∃ cs, x = .agg cs ∧ Ow h cs ts G := by
  cases ho with
  | atom ha _ => simp [M.atom] at ha
  | agg hi hr hF hF' => exact ⟨_, rfl, hi.mono hF⟩
theorem Ow.openTup {h : H} {x : AV} {ts : List AV} {G : Nat → Prop} (ho : Ow h [x] [.tup ts] G) : ∃ cs, x = .tup cs ∧ Ow h cs ts G := by
  cases ho with
  | atom ha _ => simp [M.atom] at ha
  | tup hi hr hF hF' => exact ⟨_, rfl, hi.mono hF⟩
theorem Ow.aggOf {h : H} {cs ts : List AV} {G : Nat → Prop} (ho : Ow h cs ts G) : Ow h [.agg cs] [.agg ts] G := .agg ho .nil (fun _ h => h) (fun c (hc : False) => hc.elim)
theorem Ow.tupOf {h : H} {cs ts : List AV} {G : Nat → Prop} (ho : Ow h cs ts G) : Ow h [.tup cs] [.tup ts] G := .tup ho .nil (fun _ h => h) (fun c (hc : False) => hc.elim)
theorem Ow.atomOf {h : H} {x y : AV} {G : Nat → Prop} (ho : Ow h [x] [y] G) (ha : M.atom y = true) : x = y := by
  cases ho with
  | atom _ _ => rfl
  | sl => simp [M.atom] at ha
  | agg => simp [M.atom] at ha
  | tup => simp [M.atom] at ha
/-- The first cell and the others. -/
theorem Ow.uncons {h : H} {x t : AV} {cs ts : List AV} {G : Nat → Prop} (ho : Ow h (x :: cs) (t :: ts) G) : ∃ F F' : Nat → Prop, Ow h [x] [t] F ∧ Ow h cs ts F' ∧ (∀ c, F c → G c) ∧ ∀ c, F' c → G c ∧ ¬ F c := by
  cases ho with
  | atom ha hr => exact ⟨fun _ => False, G, .atom ha .nil, hr, fun _ h => h.elim, fun c hc => ⟨hc, fun h => h⟩⟩
  | @sl b _ _ _ _ _ _ F F' _ hc hl h1 hi hr hb hF hF' =>
    refine ⟨fun c => c = b ∨ F c, F', .sl hc hl h1 hi .nil (.inl rfl) (fun c hc => ⟨.inr hc, (hF c hc).2⟩) (fun c (hc : False) => hc.elim), hr, ?_, fun c hc => ⟨(hF' c hc).1, ?_⟩⟩
    · rintro c (rfl | hf)
      · exact hb
      · exact (hF c hf).1
    · rintro (hh | hh)
      · exact (hF' c hc).2.1 hh
      · exact (hF' c hc).2.2 hh
  | agg hi hr hF hF' => exact ⟨_, _, hi.aggOf, hr, hF, hF'⟩
  | tup hi hr hF hF' => exact ⟨_, _, hi.tupOf, hr, hF, hF'⟩
theorem Ow.cons {h : H} {x t : AV} {cs ts : List AV} {F F' G : Nat → Prop} (h1 : Ow h [x] [t] F) (h2 : Ow h cs ts F') (hF : ∀ c, F c → G c) (hF' : ∀ c, F' c → G c ∧ ¬ F c) : Ow h (x :: cs) (t :: ts) G := Ow.app (cs := [x]) (ts := [t]) h1 h2 hF hF'
theorem ow_atoms {α : Type} {h : H} {f : α → AV} (hf : ∀ a, M.atom (f a) = true) {G : Nat → Prop} : ∀ l : List α, Ow h (l.map f) (l.map f) G
  | [] => .nil
  | a :: l => .atom (hf a) (ow_atoms hf l)
/-- A slice of numbers, strings, truth values. -/
theorem ow_sl {h : H} {b n sz : Nat} {cs : List AV} {G : Nat → Prop} (hc : h.cells b = some cs) (hl : cs.length = n * sz) (h1 : cs.all one = true) (ha : Ow h cs cs fun _ => False) (hb : G b) : Ow h [.sl b 0 sz n n] [.ro sz cs n] G :=
  .sl hc hl h1 ha .nil hb (fun c (hc : False) => hc.elim) (fun c (hc : False) => hc.elim)
theorem ow_map {α : Type} {h : H} {b n : Nat} {f : α → AV} {l : List α} {G : Nat → Prop} (hf : ∀ a, M.atom (f a) = true) (hc : h.cells b = some (l.map f)) (hl : l.length = n) (hb : G b) : Ow h [.sl b 0 1 n n] [.ro 1 (l.map f) n] G :=
  ow_sl hc (by simp [hl]) (one_map fun a => by have := hf a; cases hh : f a <;> first | rfl | (rw [hh] at this; simp [M.atom] at this)) (ow_atoms hf l) hb
/-! ### functions that return such -/
def Seg (n : Nat) (h : H) : Nat → Prop := fun c => n ≤ c ∧ c < h.length
def FnO (P : Program) (f : FuncId) (args : List AV) (R : AV → Prop) : Prop := ∀ h, Call P f args h Nowhere (fun x h' => ∃ t, Ow h' [x] [t] (fun c => h.length ≤ c) ∧ R t)
theorem FnO.fn {P f args R} (hf : FnO P f args R) : Fn P f args R :=
  Fn.froze_ fun h => (hf h).mono (fun x h' ⟨t, ho, hR⟩ => ⟨t, ho.vw1 (fun _ h => h), hR⟩) (fun _ _ h => h)
theorem FnO.tidy {P f args R} (hf : FnO P f args R) (h : H) : Call P f args h Nowhere (fun x h' => ∃ t l, h' = h ++ l ∧ (∀ o ∈ l, OwnO h.length o) ∧ Own h.length x ∧ Ow h' [x] [t] (Seg h.length h') ∧ R t) := by
  refine (hf h).tidy fun x h' ⟨t, ho, hR⟩ hle => ?_
  obtain ⟨U, u1, u2, u3⟩ := ho.exact_ (fun _ h => h)
  refine ⟨keepL h.length h' U, keepL_len hle, fun i o hi => (keepL_get hi).2, t, _, rfl, fun o ho2 => ?_, ho.own (fun _ h => h) x (by simp), ?_, hR⟩
  · cases o with
    | none => trivial
    | some o =>
      obtain ⟨i, hi⟩ := List.getElem?_of_mem ho2
      obtain ⟨hk, hg⟩ := keepL_get hi
      obtain ⟨l, hl, hlo⟩ := u2 _ hk
      rw [cells_eq, hg] at hl
      cases o with
      | cells cs =>
        injection hl with hl
        subst hl
        exact hlo
      | map es => cases hl
  · refine (u3 _ fun c hc => ?_).mono fun c hc => ⟨u1 c hc, ?_⟩
    · obtain ⟨l, hl, _⟩ := u2 c hc
      exact keepL_at (u1 c hc) hc hl
    · obtain ⟨l, hl, _⟩ := u2 c hc
      have := cells_lt hl
      rw [List.length_append, keepL_len hle]
      exact this
/-- Called with memory of the caller's own, lent. -/
theorem FnO.lend {P : Program} {f : FuncId} {args ts : List AV} {R : AV → Prop} {h : H} {pm : Nat → Prop} {Q : AV → H → Prop} (hf : FnO P f ts R) (hl : Lend h args ts)
    (hQ : ∀ x t l, R t → Ow (h ++ l) [x] [t] (Seg h.length (h ++ l)) → Q x (h ++ l)) : Call P f args h pm Q := by
  refine Call.lend hl.len hl.get (hf.tidy (dead h)) fun x h' ⟨t, l, he, hol, hox, how, hR⟩ => ?_
  have hd : (dead h).length = h.length := by simp [dead]
  rw [hd] at hol hox how
  subst he
  refine ⟨l, rfl, hox, hol, hQ x t l hR ?_⟩
  have := how.frame (h' := h ++ l) fun c hc => by
    have h1 := hc.1
    rw [List.getElem?_append_right h1, List.getElem?_append_right (by omega), hd]
  exact this.mono fun c hc => ⟨hc.1, by have := hc.2; rw [List.length_append] at this ⊢; omega⟩
/-- Called with what is only read. -/
theorem FnO.use {P : Program} {f : FuncId} {args : List AV} {R : AV → Prop} {h : H} {pm : Nat → Prop} {Q : AV → H → Prop} (hf : FnO P f args R)
    (hQ : ∀ x t l, R t → Ow (h ++ l) [x] [t] (Seg h.length (h ++ l)) → Q x (h ++ l)) : Call P f args h pm Q :=
  (hf.tidy h).mono (fun x h' ⟨t, l, he, _, _, how, hR⟩ => by
    subst he
    exact hQ x t l hR how) (fun _ _ h => h.elim)
/-- What is marked. -/
def Kp (G : Nat → Prop) (h h' : H) : Prop := h'.length = h.length ∧ ∀ c, ¬ G c → h'[c]? = h[c]?
theorem Kp.refl {G : Nat → Prop} {h : H} : Kp G h h := ⟨rfl, fun _ _ => rfl⟩
theorem Kp.trans {G : Nat → Prop} {h h1 h2 : H} (a : Kp G h h1) (b : Kp G h1 h2) : Kp G h h2 := ⟨b.1.trans a.1, fun c hc => (b.2 c hc).trans (a.2 c hc)⟩
theorem Kp.mono {G G' : Nat → Prop} {h h1 : H} (a : Kp G h h1) (hG : ∀ c, G c → G' c) : Kp G' h h1 := ⟨a.1, fun c hc => a.2 c fun hg => hc (hG c hg)⟩
theorem Kp.wr {G : Nat → Prop} {h h1 : H} (a : Kp G h h1) {b : Nat} (hb : G b) (cs : List AV) : Kp G h (M.wr h1 b cs) := ⟨by simp [M.wr, a.1], fun c hc => by
  unfold M.wr
  rw [List.getElem?_set_ne (show b ≠ c from fun he => hc (by rw [← he]; exact hb))]
  exact a.2 c hc⟩
theorem Kp.ow {G G' : Nat → Prop} {h h' : H} (a : Kp G h h') {cs ts : List AV} (ho : Ow h cs ts G') (hd : ∀ c, G' c → ¬ G c) : Ow h' cs ts G' := ho.frame fun c hc => a.2 c (hd c hc)
end Go.Proofs.Ytgkdnpigbpkehaa.M
