/-
  Memory of the call's own, as a tree: what is seen of it, what it leans on, how a part of it is put over; functions that return such.
-/
import Derived.Test.YtbkcenkfecndjaaGreatDoorM18
namespace Go.Proofs.YtbkcenkfecndjaaGreatDoor.M
open Go Go.RowKit
set_option linter.unusedVariables false
set_option linter.unusedSimpArgs false
def atom : AV → Bool
  | .int .. | .bool _ | .str _ | .nils | .nilp | .nili => true
  | _ => false
theorem atom_free {x : AV} (h : atom x = true) : Free x := by
  cases x <;> first | exact free_int | exact free_bool | exact free_str | exact free_nils | exact free_nilp | exact free_nili | simp [atom] at h
theorem atom_own {x : AV} {n : Nat} (h : atom x = true) : Own n x := by
  cases x <;> first | exact own_int | exact own_bool | exact own_str | exact own_nils | exact own_nilp | exact own_nili | simp [atom] at h
/-- The cells cs, seen as ts, lean on blocks of G alone, each block on one path. -/
inductive Ow (h : H) : List AV → List AV → (Nat → Prop) → Prop
  | nil {G : Nat → Prop} : Ow h [] [] G
  | atom {x : AV} {cs ts : List AV} {G : Nat → Prop} (ha : atom x = true) (hr : Ow h cs ts G) : Ow h (x :: cs) (x :: ts) G
  | sl {b sz len : Nat} {cs ts cs' ts' : List AV} {F F' G : Nat → Prop} (hc : h.cells b = some cs) (hl : cs.length = len * sz) (h1 : ts.all one = true) (hi : Ow h cs ts F) (hr : Ow h cs' ts' F') (hb : G b)
      (hF : ∀ c, F c → G c ∧ c ≠ b) (hF' : ∀ c, F' c → G c ∧ c ≠ b ∧ ¬ F c) : Ow h (.sl b 0 sz len len :: cs') (.ro sz ts len :: ts') G
  | agg {cs ts cs' ts' : List AV} {F F' G : Nat → Prop} (hi : Ow h cs ts F) (hr : Ow h cs' ts' F') (hF : ∀ c, F c → G c) (hF' : ∀ c, F' c → G c ∧ ¬ F c) : Ow h (.agg cs :: cs') (.agg ts :: ts') G
  | tup {cs ts cs' ts' : List AV} {F F' G : Nat → Prop} (hi : Ow h cs ts F) (hr : Ow h cs' ts' F') (hF : ∀ c, F c → G c) (hF' : ∀ c, F' c → G c ∧ ¬ F c) : Ow h (.tup cs :: cs') (.tup ts :: ts') G
theorem Ow.len {h : H} {cs ts : List AV} {G : Nat → Prop} (ho : Ow h cs ts G) : ts.length = cs.length := by
  induction ho with
  | nil => rfl
  | atom _ _ ih => simp [ih]
  | sl _ _ _ _ _ _ _ _ _ ih => simp [ih]
  | agg _ _ _ _ _ ih => simp [ih]
  | tup _ _ _ _ _ ih => simp [ih]
theorem Ow.mono {h : H} {cs ts : List AV} {G G' : Nat → Prop} (ho : Ow h cs ts G) (hG : ∀ c, G c → G' c) : Ow h cs ts G' := by
  induction ho generalizing G' with
  | nil => exact .nil
  | atom ha _ ih => exact .atom ha (ih hG)
  | sl hc hl h1 hi hr hb hF hF' _ _ => exact .sl hc hl h1 hi hr (hG _ hb) (fun c hc => ⟨hG _ (hF c hc).1, (hF c hc).2⟩) (fun c hc => ⟨hG _ (hF' c hc).1, (hF' c hc).2⟩)
  | agg hi hr hF hF' _ _ => exact .agg hi hr (fun c hc => hG _ (hF c hc)) (fun c hc => ⟨hG _ (hF' c hc).1, (hF' c hc).2⟩)
  | tup hi hr hF hF' _ _ => exact .tup hi hr (fun c hc => hG _ (hF c hc)) (fun c hc => ⟨hG _ (hF' c hc).1, (hF' c hc).2⟩)
theorem cells_keep_ {h h' : H} {b : Nat} {cs : List AV} (hk : h'[b]? = h[b]?) (hc : h.cells b = some cs) : h'.cells b = some cs := by
  rw [cells_eq, hk, ← cells_eq]
  exact hc
theorem Ow.frame {h h' : H} {cs ts : List AV} {G : Nat → Prop} (ho : Ow h cs ts G) (hk : ∀ c, G c → h'[c]? = h[c]?) : Ow h' cs ts G := by
  induction ho with
  | nil => exact .nil
  | atom ha _ ih => exact .atom ha (ih hk)
  | sl hc hl h1 hi hr hb hF hF' ih1 ih2 => exact .sl (cells_keep_ (hk _ hb) hc) hl h1 (ih1 fun c hc => hk c (hF c hc).1) (ih2 fun c hc => hk c (hF' c hc).1) hb hF hF'
  | agg hi hr hF hF' ih1 ih2 => exact .agg (ih1 fun c hc => hk c (hF c hc)) (ih2 fun c hc => hk c (hF' c hc).1) hF hF'
  | tup hi hr hF hF' ih1 ih2 => exact .tup (ih1 fun c hc => hk c (hF c hc)) (ih2 fun c hc => hk c (hF' c hc).1) hF hF'
/-- What is seen of it. -/
theorem Ow.vw {h : H} {n0 : Nat} {cs ts : List AV} {G : Nat → Prop} (ho : Ow h cs ts G) (hG : ∀ c, G c → n0 ≤ c) : ∀ (i : Nat) (y t : AV), cs[i]? = some y → ts[i]? = some t → Vw h n0 y t := by
  induction ho with
  | nil => intro i y t hy; simp at hy
  | atom ha _ ih =>
    intro i y t hy ht
    cases i with
    | zero =>
      simp at hy ht
      subst hy ht
      exact .free (atom_free ha)
    | succ i => exact ih hG i y t (by simpa using hy) (by simpa using ht)
  | sl hc hl h1 hi hr hb hF hF' ih1 ih2 =>
    intro i y t hy ht
    cases i with
    | zero =>
      simp at hy ht
      subst hy ht
      refine .sl (hG _ hb) hc (by omega) (by rw [hi.len, hl]) h1 (fun i y t hy ht => ?_)
      rw [Nat.zero_add] at hy
      exact ih1 (fun c hc => hG c (hF c hc).1) i y t hy ht
    | succ i => exact ih2 (fun c hc => hG c (hF' c hc).1) i y t (by simpa using hy) (by simpa using ht)
  | agg hi hr hF hF' ih1 ih2 =>
    intro i y t hy ht
    cases i with
    | zero =>
      simp at hy ht
      subst hy ht
      exact .agg hi.len (ih1 fun c hc => hG c (hF c hc))
    | succ i => exact ih2 (fun c hc => hG c (hF' c hc).1) i y t (by simpa using hy) (by simpa using ht)
  | tup hi hr hF hF' ih1 ih2 =>
    intro i y t hy ht
    cases i with
    | zero =>
      simp at hy ht
      subst hy ht
      exact .tup hi.len (ih1 fun c hc => hG c (hF c hc))
    | succ i => exact ih2 (fun c hc => hG c (hF' c hc).1) i y t (by simpa using hy) (by simpa using ht)
theorem Ow.vw1 {h : H} {n0 : Nat} {x t : AV} {G : Nat → Prop} (ho : Ow h [x] [t] G) (hG : ∀ c, G c → n0 ≤ c) : Vw h n0 x t := ho.vw hG 0 x t rfl rfl
theorem Ow.vw0 {h : H} {x t : AV} {G : Nat → Prop} (ho : Ow h [x] [t] G) : Vw h 0 x t := ho.vw1 fun _ _ => Nat.zero_le _
theorem Ow.own {h : H} {n0 : Nat} {cs ts : List AV} {G : Nat → Prop} (ho : Ow h cs ts G) (hG : ∀ c, G c → n0 ≤ c) : ∀ y ∈ cs, Own n0 y := by
  induction ho with
  | nil => intro y hy; cases hy
  | atom ha _ ih =>
    intro y hy
    rcases List.mem_cons.1 hy with rfl | hy
    · exact atom_own ha
    · exact ih hG y hy
  | sl hc hl h1 hi hr hb hF hF' ih1 ih2 =>
    intro y hy
    rcases List.mem_cons.1 hy with rfl | hy
    · exact own_sl (hG _ hb)
    · exact ih2 (fun c hc => hG c (hF' c hc).1) y hy
  | agg hi hr hF hF' ih1 ih2 =>
    intro y hy
    rcases List.mem_cons.1 hy with rfl | hy
    · exact own_agg (ih1 fun c hc => hG c (hF c hc))
    · exact ih2 (fun c hc => hG c (hF' c hc).1) y hy
  | tup hi hr hF hF' ih1 ih2 =>
    intro y hy
    rcases List.mem_cons.1 hy with rfl | hy
    · exact own_tup (ih1 fun c hc => hG c (hF c hc))
    · exact ih2 (fun c hc => hG c (hF' c hc).1) y hy
/-- The blocks that it leans on indeed. -/
theorem Ow.exact_ {h : H} {n0 : Nat} {cs ts : List AV} {G : Nat → Prop} (ho : Ow h cs ts G) (hG : ∀ c, G c → n0 ≤ c) :
    ∃ U : Nat → Prop, (∀ c, U c → G c) ∧ (∀ c, U c → ∃ l, h.cells c = some l ∧ ∀ y ∈ l, Own n0 y) ∧ ∀ h' : H, (∀ c, U c → h'[c]? = h[c]?) → Ow h' cs ts U := by
  induction ho with
  | nil => exact ⟨fun _ => False, fun _ h => h.elim, fun _ h => h.elim, fun _ _ => .nil⟩
  | atom ha _ ih =>
    obtain ⟨U, u1, u2, u3⟩ := ih hG
    exact ⟨U, u1, u2, fun h' hk => .atom ha (u3 h' hk)⟩
  | @sl b sz len cs ts cs' ts' F F' G hc hl h1 hi hr hb hF hF' ih1 ih2 =>
    obtain ⟨U, u1, u2, u3⟩ := ih1 fun c hc => hG c (hF c hc).1
    obtain ⟨V, v1, v2, v3⟩ := ih2 fun c hc => hG c (hF' c hc).1
    refine ⟨fun c => c = b ∨ U c ∨ V c, ?_, ?_, fun h' hk => ?_⟩
    · rintro c (rfl | hu | hv)
      · exact hb
      · exact (hF c (u1 c hu)).1
      · exact (hF' c (v1 c hv)).1
    · rintro c (rfl | hu | hv)
      · exact ⟨_, hc, hi.own fun c hc => hG c (hF c hc).1⟩
      · exact u2 c hu
      · exact v2 c hv
    · exact .sl (cells_keep_ (hk b (.inl rfl)) hc) hl h1 (u3 h' fun c hc => hk c (.inr (.inl hc))) (v3 h' fun c hc => hk c (.inr (.inr hc))) (.inl rfl) (fun c hc => ⟨.inr (.inl hc), (hF c (u1 c hc)).2⟩) (fun c hc => ⟨.inr (.inr hc), (hF' c (v1 c hc)).2.1, fun hu => (hF' c (v1 c hc)).2.2 (u1 c hu)⟩)
  | @agg cs ts cs' ts' F F' G hi hr hF hF' ih1 ih2 =>
    obtain ⟨U, u1, u2, u3⟩ := ih1 fun c hc => hG c (hF c hc)
    obtain ⟨V, v1, v2, v3⟩ := ih2 fun c hc => hG c (hF' c hc).1
    refine ⟨fun c => U c ∨ V c, ?_, ?_, fun h' hk => ?_⟩
    · rintro c (hu | hv)
      · exact hF c (u1 c hu)
      · exact (hF' c (v1 c hv)).1
    · rintro c (hu | hv)
      · exact u2 c hu
      · exact v2 c hv
    · exact .agg (u3 h' fun c hc => hk c (.inl hc)) (v3 h' fun c hc => hk c (.inr hc)) (fun c hc => .inl hc) (fun c hc => ⟨.inr hc, fun hu => (hF' c (v1 c hc)).2 (u1 c hu)⟩)
  | @tup cs ts cs' ts' F F' G hi hr hF hF' ih1 ih2 =>
    obtain ⟨U, u1, u2, u3⟩ := ih1 fun c hc => hG c (hF c hc)
    obtain ⟨V, v1, v2, v3⟩ := ih2 fun c hc => hG c (hF' c hc).1
    refine ⟨fun c => U c ∨ V c, ?_, ?_, fun h' hk => ?_⟩
    · rintro c (hu | hv)
      · exact hF c (u1 c hu)
      · exact (hF' c (v1 c hv)).1
    · rintro c (hu | hv)
      · exact u2 c hu
      · exact v2 c hv
    · exact .tup (u3 h' fun c hc => hk c (.inl hc)) (v3 h' fun c hc => hk c (.inr hc)) (fun c hc => .inl hc) (fun c hc => ⟨.inr hc, fun hu => (hF' c (v1 c hc)).2 (u1 c hu)⟩)
/-! ### parts -/
theorem Ow.app {h : H} {cs ts cs' ts' : List AV} {F F' G : Nat → Prop} (h1 : Ow h cs ts F) (h2 : Ow h cs' ts' F') (hF : ∀ c, F c → G c) (hF' : ∀ c, F' c → G c ∧ ¬ F c) : Ow h (cs ++ cs') (ts ++ ts') G := by
  induction h1 generalizing G F' with
  | nil => exact h2.mono fun c hc => (hF' c hc).1
  | atom ha _ ih => exact .atom ha (ih h2 hF hF')
  | @sl b sz len cs ts cs2 ts2 F0 F2 F hc hl h1 hi hr hb hA hB ih1 ih2 =>
    have := ih2 (G := fun c => F2 c ∨ F' c) h2 (fun c hc => .inl hc) (fun c hc => ⟨.inr hc, fun hf => (hF' c hc).2 (hB c hf).1⟩)
    refine .sl hc hl h1 hi this (hF _ hb) (fun c hc => ⟨hF c (hA c hc).1, (hA c hc).2⟩) ?_
    rintro c (hc | hc)
    · exact ⟨hF c (hB c hc).1, (hB c hc).2⟩
    · exact ⟨(hF' c hc).1, fun he => (hF' c hc).2 (he ▸ hb), fun hf => (hF' c hc).2 (hA c hf).1⟩
  | @agg cs ts cs2 ts2 F0 F2 F hi hr hA hB ih1 ih2 =>
    have := ih2 (G := fun c => F2 c ∨ F' c) h2 (fun c hc => .inl hc) (fun c hc => ⟨.inr hc, fun hf => (hF' c hc).2 (hB c hf).1⟩)
    refine .agg hi this (fun c hc => hF c (hA c hc)) ?_
    rintro c (hc | hc)
    · exact ⟨hF c (hB c hc).1, (hB c hc).2⟩
    · exact ⟨(hF' c hc).1, fun hf => (hF' c hc).2 (hA c hf)⟩
  | @tup cs ts cs2 ts2 F0 F2 F hi hr hA hB ih1 ih2 =>
    have := ih2 (G := fun c => F2 c ∨ F' c) h2 (fun c hc => .inl hc) (fun c hc => ⟨.inr hc, fun hf => (hF' c hc).2 (hB c hf).1⟩)
    refine .tup hi this (fun c hc => hF c (hA c hc)) ?_
    rintro c (hc | hc)
    · exact ⟨hF c (hB c hc).1, (hB c hc).2⟩
    · exact ⟨(hF' c hc).1, fun hf => (hF' c hc).2 (hA c hf)⟩
/-- A slice of it, opened. -/
theorem Ow.open_ {h : H} {x : AV} {sz len : Nat} {ts : List AV} {G : Nat → Prop} (ho : Ow h [x] [.ro sz ts len] G) :
    ∃ (b : Nat) (cs : List AV) (F : Nat → Prop), x = .sl b 0 sz len len ∧ h.cells b = some cs ∧ cs.length = len * sz ∧ G b ∧ (∀ c, F c → G c ∧ c ≠ b) ∧ Ow h cs ts F ∧
      ∀ (h' : H) (cs' ts' : List AV), h'.cells b = some cs' → Ow h' cs' ts' F → cs'.length = len * sz → ts'.all one = true → Ow h' [x] [.ro sz ts' len] G := by
  cases ho with
  | atom ha _ => simp [M.atom] at ha
  | sl hc hl h1 hi hr hb hF hF' => exact ⟨_, _, _, rfl, hc, hl, hb, hF, hi, fun h' cs' ts' g1 g2 g3 g4 => .sl g1 g3 g4 g2 .nil hb hF (fun c (hc : False) => hc.elim)⟩
theorem Ow.openAgg {h : H} {x : AV} {ts : List AV} {G : Nat → Prop} (ho : Ow h [x] [.agg ts] G) : ∃ cs, x = .agg cs ∧ Ow h cs ts G := by
  cases ho with
  | atom ha _ => simp [M.atom] at ha
  | agg hi hr hF hF' => exact ⟨_, rfl, hi.mono hF⟩
theorem Ow.openTup {h : H} {x : AV} {ts : List AV} {G : Nat → Prop} (ho : Ow h [x] [.tup ts] G) : ∃ cs, x = .tup cs ∧ Ow h cs ts G := by
  cases ho with
  | atom ha _ => simp [M.atom] at ha
  | tup hi hr hF hF' => exact ⟨_, rfl, hi.mono hF⟩
theorem Ow.aggOf {h : H} {cs ts : List AV} {G : Nat → Prop} (ho : Ow h cs ts G) : Ow h [.agg cs] [.agg ts] G := .agg ho .nil (fun _ h => h) (fun c (hc : False) => hc.elim)
theorem Ow.tupOf {h : H} {cs ts : List AV} {G : Nat → Prop} (ho : Ow h cs ts G) : Ow h [.tup cs] [.tup ts] G := .tup ho .nil (fun _ h => h) (fun c (hc : False) => hc.elim)
theorem Ow.atomOf {h : H} {x y : AV} {G : Nat → Prop} (ho : Ow h [x] [y] G) (ha : M.atom y = true) : x = y := by
  cases ho with
  | atom _ _ => rfl
  | sl => simp [M.atom] at ha
  | agg => simp [M.atom] at ha
  | tup => simp [M.atom] at ha
/-- The first cell and the others. -/
theorem Ow.uncons {h : H} {x t : AV} {cs ts : List AV} {G : Nat → Prop} (ho : Ow h (x :: cs) (t :: ts) G) : ∃ F F' : Nat → Prop, Ow h [x] [t] F ∧ Ow h cs ts F' ∧ (∀ c, F c → G c) ∧ ∀ c, F' c → G c ∧ ¬ F c := by
  cases ho with
  | atom ha hr => exact ⟨fun _ => False, G, .atom ha .nil, hr, fun _ h => h.elim, fun c hc => ⟨hc, fun h => h⟩⟩
  | @sl b _ _ _ _ _ _ F F' _ hc hl h1 hi hr hb hF hF' =>
    refine ⟨fun c => c = b ∨ F c, F', .sl hc hl h1 hi .nil (.inl rfl) (fun c hc => ⟨.inr hc, (hF c hc).2⟩) (fun c (hc : False) => hc.elim), hr, ?_, fun c hc => ⟨(hF' c hc).1, ?_⟩⟩
    · rintro c (rfl | hf)
      · exact hb
      · exact (hF c hf).1
    · rintro (hh | hh)
      · exact (hF' c hc).2.1 hh
      · exact (hF' c hc).2.2 hh
  | agg hi hr hF hF' => exact ⟨_, _, hi.aggOf, hr, hF, hF'⟩
  | tup hi hr hF hF' => exact ⟨_, _, hi.tupOf, hr, hF, hF'⟩
theorem Ow.cons {h : H} {x t : AV} {cs ts : List AV} {F F' G : Nat → Prop} (h1 : Ow h [x] [t] F) (h2 : Ow h cs ts F') (hF : ∀ c, F c → G c) (hF' : ∀ c, F' c → G c ∧ ¬ F c) : Ow h (x :: cs) (t :: ts) G := Ow.app (cs := [x]) (ts := [t]) h1 h2 hF hF'
theorem ow_atoms {α : Type} {h : H} {f : α → AV} (hf : ∀ a, M.atom (f a) = true) {G : Nat → Prop} : ∀ l : List α, Ow h (l.map f) (l.map f) G
  | [] => .nil
  | a :: l => .atom (hf a) (ow_atoms hf l)
/-- A slice of numbers, strings, truth values. -/
theorem ow_sl {h : H} {b n sz : Nat} {cs : List AV} {G : Nat → Prop} (hc : h.cells b = some cs) (hl : cs.length = n * sz) (h1 : cs.all one = true) (ha : Ow h cs cs fun _ => False) (hb : G b) : Ow h [.sl b 0 sz n n] [.ro sz cs n] G :=
  .sl hc hl h1 ha .nil hb (fun c (hc : False) => hc.elim) (fun c (hc : False) => hc.elim)
theorem ow_map {α : Type} {h : H} {b n : Nat} {f : α → AV} {l : List α} {G : Nat → Prop} (hf : ∀ a, M.atom (f a) = true) (hc : h.cells b = some (l.map f)) (hl : l.length = n) (hb : G b) : Ow h [.sl b 0 1 n n] [.ro 1 (l.map f) n] G :=
  ow_sl hc (by simp [hl]) (one_map fun a => by have := hf a; cases hh : f a <;> first | rfl | (rw [hh] at this; simp [M.atom] at this)) (ow_atoms hf l) hb
/-! ### functions that return such -/
def Seg (n : Nat) (h : H) : Nat → Prop := fun c => n ≤ c ∧ c < h.length
def FnO (P : Program) (f : FuncId) (args : List AV) (R : AV → Prop) : Prop := ∀ h, Call P f args h Nowhere (fun x h' => ∃ t, Ow h' [x] [t] (fun c => h.length ≤ c) ∧ R t)
theorem FnO.fn {P f args R} (hf : FnO P f args R) : Fn P f args R :=
  Fn.froze_ fun h => (hf h).mono (fun x h' ⟨t, ho, hR⟩ => ⟨t, ho.vw1 (fun _ h => h), hR⟩) (fun _ _ h => h)
theorem FnO.tidy {P f args R} (hf : FnO P f args R) (h : H) : Call P f args h Nowhere (fun x h' => ∃ t l, h' = h ++ l ∧ (∀ o ∈ l, OwnO h.length o) ∧ Own h.length x ∧ Ow h' [x] [t] (Seg h.length h') ∧ R t) := by
  refine (hf h).tidy fun x h' ⟨t, ho, hR⟩ hle => ?_
  obtain ⟨U, u1, u2, u3⟩ := ho.exact_ (fun _ h => h)
  refine ⟨keepL h.length h' U, keepL_len hle, fun i o hi => (keepL_get hi).2, t, _, rfl, fun o ho2 => ?_, ho.own (fun _ h => h) x (by simp), ?_, hR⟩
  · cases o with
    | none => trivial
    | some o =>
      obtain ⟨i, hi⟩ := List.getElem?_of_mem ho2
      obtain ⟨hk, hg⟩ := keepL_get hi
      obtain ⟨l, hl, hlo⟩ := u2 _ hk
      rw [cells_eq, hg] at hl
      cases o with
      | cells cs =>
        injection hl with hl
        subst hl
        exact hlo
      | map es => cases hl
  · refine (u3 _ fun c hc => ?_).mono fun c hc => ⟨u1 c hc, ?_⟩
    · obtain ⟨l, hl, _⟩ := u2 c hc
      exact keepL_at (u1 c hc) hc hl
    · obtain ⟨l, hl, _⟩ := u2 c hc
      have := cells_lt hl
      rw [List.length_append, keepL_len hle]
      exact this
/-- Called with memory of the caller's own, lent. -/
theorem FnO.lend {P : Program} {f : FuncId} {args ts : List AV} {R : AV → Prop} {h : H} {pm : Nat → Prop} {Q : AV → H → Prop} (hf : FnO P f ts R) (hl : Lend h args ts)
    (hQ : ∀ x t l, R t → Ow (h ++ l) [x] [t] (Seg h.length (h ++ l)) → Q x (h ++ l)) : Call P f args h pm Q := by
  refine Call.lend hl.len hl.get (hf.tidy (dead h)) fun x h' ⟨t, l, he, hol, hox, how, hR⟩ => ?_
  have hd : (dead h).length = h.length := by simp [dead]
  rw [hd] at hol hox how
  subst he
  refine ⟨l, rfl, hox, hol, hQ x t l hR ?_⟩
  have := how.frame (h' := h ++ l) fun c hc => by
    have h1 := hc.1
    rw [List.getElem?_append_right h1, List.getElem?_append_right (by omega), hd]
  exact this.mono fun c hc => ⟨hc.1, by have := hc.2; rw [List.length_append] at this ⊢; omega⟩
/-- Called with what is only read. -/
theorem FnO.use {P : Program} {f : FuncId} {args : List AV} {R : AV → Prop} {h : H} {pm : Nat → Prop} {Q : AV → H → Prop} (hf : FnO P f args R)
    (hQ : ∀ x t l, R t → Ow (h ++ l) [x] [t] (Seg h.length (h ++ l)) → Q x (h ++ l)) : Call P f args h pm Q :=
  (hf.tidy h).mono (fun x h' ⟨t, l, he, _, _, how, hR⟩ => by
    subst he
    exact hQ x t l hR how) (fun _ _ h => h.elim)
/-- What is marked. -/
def Kp (G : Nat → Prop) (h h' : H) : Prop := h'.length = h.length ∧ ∀ c, ¬ G c → h'[c]? = h[c]?
theorem Kp.refl {G : Nat → Prop} {h : H} : Kp G h h := ⟨rfl, fun _ _ => rfl⟩
theorem Kp.trans {G : Nat → Prop} {h h1 h2 : H} (a : Kp G h h1) (b : Kp G h1 h2) : Kp G h h2 := ⟨b.1.trans a.1, fun c hc => (b.2 c hc).trans (a.2 c hc)⟩
theorem Kp.mono {G G' : Nat → Prop} {h h1 : H} (a : Kp G h h1) (hG : ∀ c, G c → G' c) : Kp G' h h1 := ⟨a.1, fun c hc => a.2 c fun hg => hc (hG c hg)⟩
theorem Kp.wr {G : Nat → Prop} {h h1 : H} (a : Kp G h h1) {b : Nat} (hb : G b) (cs : List AV) : Kp G h (M.wr h1 b cs) := ⟨by simp [M.wr, a.1], fun c hc => by
  unfold M.wr
  rw [List.getElem?_set_ne (show b ≠ c from fun he => hc (by rw [← he]; exact hb))]
  exact a.2 c hc⟩
theorem Kp.ow {G G' : Nat → Prop} {h h' : H} (a : Kp G h h') {cs ts : List AV} (ho : Ow h cs ts G') (hd : ∀ c, G' c → ¬ G c) : Ow h' cs ts G' := ho.frame fun c hc => a.2 c (hd c hc)
/-- What lies behind stays, whatever is done ahead of it. -/
theorem Ow.shift {g g' : H} {n1 n0 : Nat} {cs ts : List AV} (ho : Ow g cs ts (Seg n1 g)) (hk : ∀ c, n1 ≤ c → g'[c]? = g[c]?) (hn : n0 ≤ n1) : Ow g' cs ts fun c => n0 ≤ c :=
  (ho.frame fun c hc => hk c hc.1).mono fun c hc => Nat.le_trans hn hc.1
theorem Ow.split {h : H} {cs ts : List AV} {G : Nat → Prop} (ho : Ow h cs ts G) : ∀ k : Nat, ∃ F F' : Nat → Prop, Ow h (cs.take k) (ts.take k) F ∧ Ow h (cs.drop k) (ts.drop k) F' ∧ (∀ c, F c → G c) ∧ ∀ c, F' c → G c ∧ ¬ F c
  | 0 => ⟨fun _ => False, G, .nil, ho, fun _ h => h.elim, fun c hc => ⟨hc, fun h => h⟩⟩
  | k + 1 => by
    cases cs with
    | nil =>
      have := ho.len
      have hts : ts = [] := List.eq_nil_of_length_eq_zero (by simpa using this)
      subst hts
      exact ⟨fun _ => False, fun _ => False, .nil, .nil, fun _ h => h.elim, fun _ h => h.elim⟩
    | cons x cs =>
      cases ts with
      | nil => have := ho.len; simp at this
      | cons t ts =>
        obtain ⟨F, F', h1, h2, h3, h4⟩ := ho.uncons
        obtain ⟨A, B, a1, a2, a3, a4⟩ := Ow.split h2 k
        refine ⟨fun c => F c ∨ A c, B, h1.cons a1 (fun c hc => .inl hc) (fun c hc => ⟨.inr hc, (h4 c (a3 c hc)).2⟩), a2, ?_, fun c hc => ⟨(h4 c (a4 c hc).1).1, ?_⟩⟩
        · rintro c (hc | hc)
          · exact h3 c hc
          · exact (h4 c (a3 c hc)).1
        · rintro (hh | hh)
          · exact (h4 c (a4 c hc).1).2 hh
          · exact (a4 c hc).2 hh
/-- New cells over old ones. -/
theorem Ow.over {h : H} {cs ts new nt : List AV} {off : Nat} {G Fn G' : Nat → Prop} (ho : Ow h cs ts G) (hn : Ow h new nt Fn) (hd : ∀ c, Fn c → ¬ G c) (h1 : ∀ c, G c → G' c) (h2 : ∀ c, Fn c → G' c) : Ow h (M.over cs off new) (M.over ts off nt) G' := by
  obtain ⟨A, B, a1, a2, a3, a4⟩ := ho.split off
  obtain ⟨C, D, d1, d2, d3, d4⟩ := a2.split new.length
  rw [List.drop_drop, List.drop_drop] at d2
  unfold M.over
  rw [hn.len]
  refine Ow.app (F := fun c => A c ∨ Fn c) (Ow.app a1 hn (fun c hc => .inl hc) (fun c hc => ⟨.inr hc, fun ha => hd c hc (a3 c ha)⟩)) d2 ?_ (fun c hc => ⟨h1 c (a4 c (d4 c hc).1).1, ?_⟩)
  · rintro c (hc | hc)
    · exact h1 c (a3 c hc)
    · exact h2 c hc
  · rintro (hh | hh)
    · exact (a4 c (d4 c hc).1).2 hh
    · exact hd c hh (a4 c (d4 c hc).1).1
/-- A slice that is being filled. -/
def OwB (h : H) (n0 b sz n : Nat) (ts : List AV) : Prop := ∃ (cs : List AV) (F : Nat → Prop), h.cells b = some cs ∧ cs.length = n * sz ∧ ts.all one = true ∧ Ow h cs ts F ∧ ∀ c, F c → n0 ≤ c ∧ c ≠ b
theorem OwB.sl {h : H} {n0 b sz n : Nat} {ts : List AV} (ho : OwB h n0 b sz n ts) (hb : n0 ≤ b) : Ow h [.sl b 0 sz n n] [.ro sz ts n] fun c => n0 ≤ c := by
  obtain ⟨cs, F, h1, h2, h3, h4, h5⟩ := ho
  exact .sl h1 h2 h3 h4 .nil hb h5 (fun c (hc : False) => hc.elim)
theorem over_one {cs new : List AV} {off : Nat} (h1 : cs.all one = true) (h2 : new.all one = true) : (M.over cs off new).all one = true := by
  unfold M.over
  rw [List.all_append, List.all_append, Bool.and_eq_true, Bool.and_eq_true]
  refine ⟨⟨?_, h2⟩, ?_⟩
  · rw [List.all_eq_true] at h1 ⊢
    exact fun x hx => h1 x (List.mem_of_mem_take hx)
  · rw [List.all_eq_true] at h1 ⊢
    exact fun x hx => h1 x (List.mem_of_mem_drop hx)
/-- A row of it is filled with what a callee has made. -/
theorem OwB.put {h l : H} {n0 b sz n i : Nat} {ts new nt : List AV} (ho : OwB h n0 b sz n ts) (hn0 : n0 ≤ h.length) (hn : Ow (h ++ l) new nt (Seg h.length (h ++ l))) (hi : i < n) (hnl : new.length = sz) (h1 : nt.all one = true) :
    ∃ cs, H.cells (h ++ l) b = some cs ∧ cs.length = n * sz ∧ OwB (M.wr (h ++ l) b (M.over cs (i * sz) new)) n0 b sz n (M.over ts (i * sz) nt) := by
  obtain ⟨cs, F, g1, g2, g3, g4, g5⟩ := ho
  have hb := cells_lt g1
  have hle : i * sz + sz ≤ n * sz := by
    have := Nat.mul_le_mul_right sz hi
    rw [Nat.succ_mul] at this
    exact this
  have hcs := cells_app (l := l) g1
  -- of the old part only what lies ahead
  obtain ⟨U, u1, u2, u3⟩ := g4.exact_ (n0 := 0) (fun _ _ => Nat.zero_le _)
  have hU : ∀ c, U c → c < h.length := fun c hc => by
    obtain ⟨l, hl, _⟩ := u2 c hc
    exact cells_lt hl
  have hold := u3 (h ++ l) fun c hc => List.getElem?_append_left (hU c hc)
  have hov := hold.over (off := i * sz) hn (fun c hc hu => by have := hU c hu; have := hc.1; omega) (G' := fun c => U c ∨ Seg h.length (h ++ l) c) (fun c hc => .inl hc) (fun c hc => .inr hc)
  have hne : ∀ c, (U c ∨ Seg h.length (h ++ l) c) → c ≠ b := by
    rintro c (hc | hc)
    · exact (g5 c (u1 c hc)).2
    · have := hc.1
      omega
  refine ⟨cs, hcs, g2, M.over cs (i * sz) new, fun c => U c ∨ Seg h.length (h ++ l) c, ?_, ?_, over_one g3 h1, hov.frame fun c hc => ?_, ?_⟩
  · rw [cells_eq]
    unfold M.wr
    rw [List.getElem?_set_self (by simp; omega)]
    rfl
  · rw [over_len (by omega), g2]
  · unfold M.wr
    rw [List.getElem?_set_ne (Ne.symm (hne c hc))]
  · rintro c (hc | hc)
    · exact g5 c (u1 c hc)
    · have := hc.1
      exact ⟨by omega, by omega⟩
theorem atom_one {x : AV} (h : M.atom x = true) : one x = true := by
  cases x <;> first | rfl | simp [M.atom] at h
theorem all_one_of {cs : List AV} (h : ∀ x ∈ cs, M.atom x = true) : cs.all one = true := by
  rw [List.all_eq_true]
  exact fun x hx => atom_one (h x hx)
theorem Ow.sl1 {h : H} {x : AV} {sz len : Nat} {ts : List AV} {G : Nat → Prop} (ho : Ow h [x] [.ro sz ts len] G) : ∃ b, x = .sl b 0 sz len len := by
  obtain ⟨b, _, _, hx, _⟩ := ho.open_
  exact ⟨b, hx⟩
theorem Ow.two {h : H} {x y t u : AV} {F F' G : Nat → Prop} (h1 : Ow h [x] [t] F) (h2 : Ow h [y] [u] F') (hF : ∀ c, F c → G c) (hF' : ∀ c, F' c → G c ∧ ¬ F c) : Ow h [x, y] [t, u] G := h1.cons h2 hF hF'
theorem Ow.keep {g g' : H} {n : Nat} {cs ts : List AV} (ho : Ow g cs ts (Seg n g)) (hk : ∀ c, n ≤ c → c < g.length → g'[c]? = g[c]?) : Ow g' cs ts fun c => n ≤ c ∧ c < g.length :=
  ho.frame fun c hc => hk c hc.1 hc.2
/-- What is marked, with new blocks behind. -/
def Kq (G : Nat → Prop) (h h' : H) : Prop := h.length ≤ h'.length ∧ ∀ c, c < h.length → ¬ G c → h'[c]? = h[c]?
theorem Kq.ow {G G' : Nat → Prop} {h h' : H} (a : Kq G h h') {cs ts : List AV} (ho : Ow h cs ts G') (hd : ∀ c, G' c → c < h.length ∧ ¬ G c) : Ow h' cs ts G' := ho.frame fun c hc => a.2 c (hd c hc).1 (hd c hc).2
theorem Kq.seg {G : Nat → Prop} {g l h' : H} {n : Nat} (a : Kq G (g ++ l) h') {cs ts : List AV} (ho : Ow (g ++ l) cs ts (Seg n (g ++ l))) (hd : ∀ c, G c → c < n) : Ow h' cs ts (Seg n (g ++ l)) :=
  a.ow ho fun c hc => ⟨hc.2, fun hg => by have := hd c hg; have := hc.1; omega⟩
theorem S1.ow {α : Type} {h : H} {n0 n : Nat} {v : AV} {f : α → AV} {l : List α} {B : List Nat} (hs : S1 h 1 v n (l.map f) B) (hf : ∀ a, M.atom (f a) = true) (hb : ∀ b ∈ B, n0 ≤ b) (hnn : v ≠ .nils) : Ow h [v] [.ro 1 (l.map f) n] fun c => n0 ≤ c := by
  obtain ⟨hl, hs⟩ := hs
  rcases hs with ⟨h0, _, _⟩ | ⟨b, rfl, hB, hc⟩
  · exact absurd h0 hnn
  · exact ow_map hf hc (by simpa using hl) (hb b (by simp [hB]))
/-- A heap that has gone on: what was there is there. -/
def Ext (h h' : H) : Prop := ∃ l, h' = h ++ l
theorem Ext.refl {h : H} : Ext h h := ⟨[], by simp⟩
theorem Ext.app {h h' l : H} (a : Ext h h') : Ext h (h' ++ l) := by
  obtain ⟨p, rfl⟩ := a
  exact ⟨p ++ l, by simp⟩
theorem Ext.len {h h' : H} (a : Ext h h') : h.length ≤ h'.length := by
  obtain ⟨p, rfl⟩ := a
  simp
theorem Ext.at_ {h h' : H} (a : Ext h h') {c : Nat} (hc : c < h.length) : h'[c]? = h[c]? := by
  obtain ⟨p, rfl⟩ := a
  exact List.getElem?_append_left hc
theorem Ext.cells {h h' : H} (a : Ext h h') {b : Nat} {cs : List AV} (hc : h.cells b = some cs) : h'.cells b = some cs := by
  obtain ⟨p, rfl⟩ := a
  exact cells_app hc
theorem Ext.ow {h h' : H} (a : Ext h h') {cs ts : List AV} {n : Nat} (ho : Ow h cs ts (Seg n h)) : Ow h' cs ts (Seg n h) := ho.frame fun c hc => a.at_ hc.2
theorem FnO.go {P : Program} {f : FuncId} {args : List AV} {R : AV → Prop} {h : H} {pm : Nat → Prop} {Q : AV → H → Prop} (hf : FnO P f args R)
    (hQ : ∀ x t h', R t → Ext h h' → Ow h' [x] [t] (Seg h.length h') → Q x h') : Call P f args h pm Q := hf.use fun x t l hR how => hQ x t _ hR ⟨l, rfl⟩ how
theorem FnO.goL {P : Program} {f : FuncId} {args ts : List AV} {R : AV → Prop} {h : H} {pm : Nat → Prop} {Q : AV → H → Prop} (hf : FnO P f ts R) (hl : Lend h args ts)
    (hQ : ∀ x t h', R t → Ext h h' → Ow h' [x] [t] (Seg h.length h') → Q x h') : Call P f args h pm Q := hf.lend hl fun x t l hR how => hQ x t _ hR ⟨l, rfl⟩ how
/-- A list of structs that grows, with what its elements hold. -/
def OwS (h : H) (n0 sz : Nat) (v : AV) (k : Nat) (ts : List AV) : Prop := (v = .nils ∧ k = 0 ∧ ts = []) ∨ Ow h [v] [.ro sz ts k] fun c => n0 ≤ c
theorem OwS.frame {h h' : H} {n0 sz k : Nat} {v : AV} {ts : List AV} (ho : OwS h n0 sz v k ts) (hk : ∀ c, c < h.length → h'[c]? = h[c]?) : OwS h' n0 sz v k ts := by
  rcases ho with h0 | ho
  · exact .inl h0
  · refine .inr ?_
    obtain ⟨U, u1, u2, u3⟩ := ho.exact_ (n0 := 0) (fun _ _ => Nat.zero_le _)
    exact (u3 h' fun c hc => by
      obtain ⟨l, hl, _⟩ := u2 c hc
      exact hk c (cells_lt hl)).mono u1
theorem OwS.vw {h : H} {n0 sz k : Nat} {v : AV} {ts : List AV} (ho : OwS h n0 sz v k ts) : (k = 0 ∧ ts = [] ∧ Vw h n0 v .nils) ∨ Vw h n0 v (.ro sz ts k) := by
  rcases ho with ⟨rfl, h1, h2⟩ | ho
  · exact .inl ⟨h1, h2, .free free_nils⟩
  · exact .inr (ho.vw1 fun _ h => h)
theorem OwS.app {h h2 : H} {n0 sz k by_ : Nat} {v : AV} {ts new nt : List AV} {pm : Nat → Prop} {Q : AV → H → Prop} (ho : OwS h n0 sz v k ts) (hn0 : n0 ≤ h.length) (hpm : ∀ b, n0 ≤ b → pm b) (hl : h.length ≤ h2.length) (hk : ∀ c, c < h.length → h2[c]? = h[c]?)
    (hn : Ow h2 new nt fun c => h.length ≤ c) (hsz : new.length = sz) (h1 : nt.all one = true) (hb : (k + 1) * by_ ≤ 140737488355328)
    (hQ : ∀ v' h', Ow h' [v'] [.ro sz (ts ++ nt) (k + 1)] (fun c => n0 ≤ c) → h2.length ≤ h'.length → (∀ c, c < n0 → h'[c]? = h2[c]?) → v' ≠ .nils → Q v' h') : apA pm h2 Q sz by_ (some (new, 1)) v := by
  have hnl := hn.len
  obtain ⟨V, v1, v2, v3⟩ := hn.exact_ (n0 := 0) (fun _ _ => Nat.zero_le _)
  have hV : ∀ c, V c → c < h2.length := fun c hc => by
    obtain ⟨l, hl, _⟩ := v2 c hc
    exact cells_lt hl
  rcases ho with ⟨rfl, rfl, rfl⟩ | ho
  · rw [apA_nil (by decide)]
    refine ⟨by simpa using hb, hQ _ _ ?_ (by simp) (fun c hc => List.getElem?_append_left (by omega)) (by simp)⟩
    refine .sl (b := h2.length) (cs := new) (F := V) (F' := fun _ => False) (by rw [cells_h0]; rfl) (by omega) (by simpa using h1) (v3 _ fun c hc => List.getElem?_append_left (hV c hc)) .nil (by omega) (fun c hc => ⟨by have := v1 c hc; omega, by have := hV c hc; omega⟩) (fun c hc => hc.elim)
  · obtain ⟨b, cs, F, rfl, hc, hcl, hbn, hF, hin, hre⟩ := ho.open_
    have hbl := cells_lt hc
    obtain ⟨U, u1, u2, u3⟩ := hin.exact_ (n0 := 0) (fun _ _ => Nat.zero_le _)
    have hU : ∀ c, U c → c < h.length := fun c hc => by
      obtain ⟨l, hl, _⟩ := u2 c hc
      exact cells_lt hl
    have hc2 : h2.cells b = some cs := cells_keep_ (hk b hbl) hc
    have htsone : ts.all one = true := by
      cases ho with
      | sl _ _ h1 _ _ _ _ _ => exact h1
    rw [apA_sl, hc2, apC_grow (by decide) (by omega)]
    refine ⟨by omega, hpm b hbn, hb, ?_⟩
    have htk : (cs.drop 0).take (k * sz) = cs := by rw [List.drop_zero, ← hcl, List.take_length]
    rw [htk]
    have hg : ∀ c, c < h2.length → c ≠ b → (killed h2 b ++ [some (.cells (cs ++ new))])[c]? = h2[c]? := fun c hc hne => by
      rw [List.getElem?_append_left (by simpa [killed] using hc)]
      unfold killed
      exact List.getElem?_set_ne (Ne.symm hne)
    refine hQ _ _ ?_ (by simp [killed]) (fun c hc => hg c (by omega) (by omega)) (by simp)
    have A := u3 (killed h2 b ++ [some (.cells (cs ++ new))]) fun c hc => (hg c (by have := hU c hc; omega) (hF c (u1 c hc)).2).trans (hk c (hU c hc))
    have B := v3 (killed h2 b ++ [some (.cells (cs ++ new))]) fun c hc => hg c (hV c hc) (by have := v1 c hc; omega)
    refine .sl (b := h2.length) (cs := cs ++ new) (F := fun c => U c ∨ V c) (F' := fun _ => False) ?_ ?_ ?_ (A.app B (fun c hc => .inl hc) (fun c hc => ⟨.inr hc, fun hu => by have := hU c hu; have := v1 c hc; omega⟩)) .nil (by omega) ?_ (fun c hc => hc.elim)
    · rw [cells_eq, List.getElem?_append_right (by simp [killed])]
      simp [killed, cellsO]
    · rw [List.length_append, hcl, hsz, Nat.succ_mul]
    · rw [List.all_append, Bool.and_eq_true]
      exact ⟨htsone, h1⟩
    · rintro c (hc | hc)
      · exact ⟨(hF c (u1 c hc)).1, by have := hU c hc; omega⟩
      · exact ⟨by have := v1 c hc; omega, by have := hV c hc; omega⟩
end Go.Proofs.YtbkcenkfecndjaaGreatDoor.M
