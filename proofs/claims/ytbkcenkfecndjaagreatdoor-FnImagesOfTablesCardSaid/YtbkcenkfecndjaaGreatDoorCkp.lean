/-
  What the functions return.
-/
import Derived.Test.YtbkcenkfecndjaaGreatDoorFkp
import Derived.Lib.ItoaLen
namespace Go.Proofs.YtbkcenkfecndjaaGreatDoor.M
open Go Go.RowKit
set_option linter.unusedVariables false
set_option linter.unusedSimpArgs false
set_option maxRecDepth 4000

def hk (seed part : Int) (s : Str) : Int := s.foldl (fun h c => (263 * h + (c.toNat : Int)) % 65521) ((31 * seed + 977 * part + 7) % 65521)
theorem hk_bd (seed part : Int) : ∀ s : Str, 0 ≤ hk seed part s ∧ hk seed part s < 65521 := by
  intro s
  have key : ∀ (s : Str) (h : Int), 0 ≤ h ∧ h < 65521 → 0 ≤ s.foldl (fun h c => (263 * h + (c.toNat : Int)) % 65521) h ∧ s.foldl (fun h c => (263 * h + (c.toNat : Int)) % 65521) h < 65521 := by
    intro s
    induction s with
    | nil => exact fun h hh => hh
    | cons c s ih =>
      intro h hh
      rw [List.foldl_cons]
      refine ih _ ?_
      show 0 ≤ (263 * h + (c.toNat : Int)) % 65521 ∧ (263 * h + (c.toNat : Int)) % 65521 < 65521
      omega
  exact key s _ ⟨by omega, by omega⟩
theorem hk_take {seed part : Int} {s : Str} {i : Nat} (hi : i < s.length) : hk seed part (s.take (i + 1)) = (263 * hk seed part (s.take i) + ((s.getD i 0).toNat : Int)) % 65521 := by
  unfold hk
  rw [List.take_add_one, List.foldl_append]
  simp [hi]
/-- The hash. -/
def hashV (seed part : Int) (s : Str) : Int := hk seed part s ^ 11 % 65521
theorem hashV_bd (seed part : Int) (s : Str) : 0 ≤ hashV seed part s ∧ hashV seed part s < 65521 := by
  unfold hashV
  exact ⟨by omega, by omega⟩
def placeV (seed part : Int) (s : Str) (n : Int) : Int := hashV seed part s * n / 65521
theorem pow_step (h : Int) (i : Nat) : h ^ i % 65521 * h % 65521 = h ^ (i + 1) % 65521 := by
  rw [Int.pow_succ, Int.mul_emod (h ^ i % 65521) h, Int.emod_emod_of_dvd _ (Int.dvd_refl _), ← Int.mul_emod]
theorem pow_join (h : Int) (i j : Nat) : (h ^ i % 65521) * (h ^ j % 65521) % 65521 = h ^ (i + j) % 65521 := by
  rw [← Int.mul_emod, Int.pow_add]

structure Pd where
  seed : Int
  seg : Int
  marks : Option (List Int)
  deriving Inhabited
def cP (p : Pd) : List AV := [.int .i64 p.seed, .int .i64 p.seg, eI p.marks]
theorem cP_len (p : Pd) : (cP p).length = 3 := rfl
def eP (p : Pd) : AV := .agg (cP p)
def ePS : Option (List Pd) → AV
  | none => .nils
  | some l => .ro 3 (l.flatMap cP) l.length
def lP : Option (List Pd) → List Pd
  | none => []
  | some l => l
theorem lenA_ePS {l : Option (List Pd)} : lenA (ePS l) = some (.int .i64 (lP l).length) := by cases l <;> rfl
theorem iaddr_ePS {l : Option (List Pd)} {k : IntKind} {n : Int} (h1 : 0 ≤ n) (h2 : n < (lP l).length) : iaddrA 3 (ePS l) (.int k n) = some (.rad ((lP l).flatMap cP) (n.toNat * 3)) := by
  cases l with
  | none => simp [lP] at h2; omega
  | some l => exact iaddrA_ro h1 h2
theorem ld_P {l : List Pd} {i : Nat} (hi : i < l.length) : ld true 3 (l.flatMap cP) (i * 3) = some (.agg (cP (l.getD i default))) := ld_row cP_len default hi
theorem get_P0 {l : List Pd} {i : Nat} (hi : i < l.length) : (l.flatMap cP)[i * 3]? = some (.int .i64 (l.getD i default).seed) := flatMap_get cP_len default (k := 0) hi (by omega)
theorem get_P1 {l : List Pd} {i : Nat} (hi : i < l.length) : (l.flatMap cP)[i * 3 + 1]? = some (.int .i64 (l.getD i default).seg) := flatMap_get cP_len default (k := 1) hi (by omega)
theorem get_P2 {l : List Pd} {i : Nat} (hi : i < l.length) : (l.flatMap cP)[i * 3 + 2]? = some (eI (l.getD i default).marks) := flatMap_get cP_len default (k := 2) hi (by omega)
theorem one_ePS {l : Option (List Pd)} : one (ePS l) = true := by cases l <;> rfl
theorem cellsOf_ePS {l : Option (List Pd)} : cellsOf (ePS l) = [ePS l] := by cases l <;> rfl
theorem free_cP {p : Pd} : ∀ c ∈ cP p, Free c := free_cons_ free_int (free_cons_ free_int (free_cons_ free_eI free_nil_))
theorem free_eP {p : Pd} : Free (eP p) := free_agg free_cP
attribute [push_cast] lenA_ePS iaddr_ePS eP ld_P get_P0 get_P1 get_P2 cellsOf_ePS one_ePS cP
def okMarks (l : List Int) : Bool := l.all fun m => decide (0 ≤ m) && decide (m ≤ 3)
def okPd (p : Pd) : Bool := (decide (0 ≤ p.seed) && decide (p.seed ≤ 9999)) && ((decide (1 ≤ p.seg) && decide (p.seg ≤ 24)) && (decide (((lI p.marks).length : Int) = 3 * p.seg) && okMarks (lI p.marks)))

structure Sh_ where
  seed : Int
  parts : Option (List Pd)
  offs : Option (List Int)
def eSh (s : Sh_) : AV := .agg [.int .i64 s.seed, ePS s.parts, eI s.offs]
attribute [push_cast] eSh
theorem placeV_bd {seed part : Int} {s : Str} {n : Int} (hn : 0 < n) : 0 ≤ placeV seed part s n ∧ placeV seed part s n < n := by
  obtain ⟨h1, h2⟩ := hashV_bd seed part s
  unfold placeV
  have h3 : 0 ≤ hashV seed part s * n := Int.mul_nonneg h1 (by omega)
  have h4 : hashV seed part s * n < 65521 * n := Int.mul_lt_mul_of_pos_right h2 hn
  constructor
  · omega
  · omega
/-- The places of a key. -/
def tri (seed : Int) (key : Str) (seg : Int) (n : Nat) : List Int := (List.range n).map fun j : Nat => placeV seed (j : Int) key seg + (j : Int) * seg
theorem tri_succ {seed : Int} {key : Str} {seg : Int} {n : Nat} : tri seed key seg (n + 1) = tri seed key seg n ++ [placeV seed (n : Int) key seg + (n : Int) * seg] := by simp [tri, List.range_succ]
theorem tri_len {seed : Int} {key : Str} {seg : Int} {n : Nat} : (tri seed key seg n).length = n := by simp [tri]
theorem tri_get {seed : Int} {key : Str} {seg : Int} {n i : Nat} (hi : i < n) : (tri seed key seg n).getD i 0 = placeV seed (i : Int) key seg + (i : Int) * seg := by simp [tri, hi]
theorem tri_bd {seed : Int} {key : Str} {seg : Int} {i : Nat} (hs : 0 < seg) (hi : i < 3) : 0 ≤ (tri seed key seg 3).getD i 0 ∧ (tri seed key seg 3).getD i 0 < 3 * seg := by
  rw [tri_get hi]
  have := placeV_bd (seed := seed) (part := (i : Int)) (s := key) hs
  have h3 : i = 0 ∨ i = 1 ∨ i = 2 := by omega
  rcases h3 with rfl | rfl | rfl <;> omega
def sumAt (m : List Int) (l : List Int) : Int := (l.map fun p => m.getD p.toNat 0).sum
theorem sumAt_take {m l : List Int} {i : Nat} (hi : i < l.length) : sumAt m (l.take (i + 1)) = sumAt m (l.take i) + m.getD (l.getD i 0).toNat 0 := by
  unfold sumAt
  rw [List.take_add_one, List.map_append, List.sum_append]
  simp [hi]
theorem okMarks_get {m : List Int} (h : okMarks m = true) (i : Nat) : 0 ≤ m.getD i 0 ∧ m.getD i 0 ≤ 3 := by
  by_cases hi : i < m.length
  · have := List.all_eq_true.1 h (m.getD i 0) (by simp [hi])
    simp only [Bool.and_eq_true, decide_eq_true_eq] at this
    exact this
  · simp [hi]
theorem sumAt_bd {m : List Int} (h : okMarks m = true) : ∀ l : List Int, 0 ≤ sumAt m l ∧ sumAt m l ≤ 3 * l.length
  | [] => by simp [sumAt]
  | p :: l => by
    have h1 := sumAt_bd h l
    have h2 := okMarks_get h p.toNat
    have h3 : sumAt m (p :: l) = m.getD p.toNat 0 + sumAt m l := by simp [sumAt]
    rw [h3]
    simp only [List.length_cons]
    omega
structure OkP (p : Pd) : Prop where
  s0 : 0 ≤ p.seed
  s1 : p.seed ≤ 9999
  g0 : 1 ≤ p.seg
  g1 : p.seg ≤ 24
  ml : ((lI p.marks).length : Int) = 3 * p.seg
  mo : okMarks (lI p.marks) = true
def eO : Option (List Bool) → AV
  | none => .nils
  | some l => .ro 1 (l.map .bool) l.length
def lO : Option (List Bool) → List Bool
  | none => []
  | some l => l
theorem lenA_eO {l : Option (List Bool)} : lenA (eO l) = some (.int .i64 (lO l).length) := by cases l <;> rfl
theorem iaddr_eO {l : Option (List Bool)} {k : IntKind} {n : Int} (h1 : 0 ≤ n) (h2 : n < (lO l).length) : iaddrA 1 (eO l) (.int k n) = some (.rad ((lO l).map .bool) n.toNat) := by
  cases l with
  | none => simp [lO] at h2; omega
  | some l => exact (iaddrA_ro h1 h2).trans (by simp [lO])
theorem get_O {l : List Bool} {i : Nat} (hi : i < l.length) : (l.map AV.bool)[i]? = some (.bool (l.getD i false)) := by simp [hi]
theorem one_eO {l : Option (List Bool)} : one (eO l) = true := by cases l <;> rfl
theorem cellsOf_eO {l : Option (List Bool)} : cellsOf (eO l) = [eO l] := by cases l <;> rfl
attribute [push_cast] lenA_eO iaddr_eO get_O one_eO cellsOf_eO
--eng lenA_eIS iaddr_eIS get_IS one_eIS cellsOf_eIS one_eI_ cellsOf_eI_ fillA_eI
theorem one_eI_ {l : Option (List Int)} : one (eI l) = true := by cases l <;> rfl
theorem fillA_eI {l : Option (List Int)} : fillA [.nils] [(0, 1, eI l)] = some [eI l] := by cases l <;> rfl
theorem cellsOf_eI_ {l : Option (List Int)} : cellsOf (eI l) = [eI l] := by cases l <;> rfl
def eIS : Option (List (List Int)) → AV
  | none => .nils
  | some l => .ro 1 (l.map fun e => eI (some e)) l.length
def lIS : Option (List (List Int)) → List (List Int)
  | none => []
  | some l => l
theorem lenA_eIS {l : Option (List (List Int))} : lenA (eIS l) = some (.int .i64 (lIS l).length) := by cases l <;> rfl
theorem iaddr_eIS {l : Option (List (List Int))} {k : IntKind} {n : Int} (h1 : 0 ≤ n) (h2 : n < (lIS l).length) : iaddrA 1 (eIS l) (.int k n) = some (.rad ((lIS l).map fun e => eI (some e)) n.toNat) := by
  cases l with
  | none => simp [lIS] at h2; omega
  | some l => exact (iaddrA_ro h1 h2).trans (by simp [lIS])
theorem get_IS {l : List (List Int)} {i : Nat} (hi : i < l.length) : (l.map fun e => eI (some e))[i]? = some (eI (some (l.getD i []))) := by simp [hi]
theorem one_eIS {l : Option (List (List Int))} : one (eIS l) = true := by cases l <;> rfl
theorem cellsOf_eIS {l : Option (List (List Int))} : cellsOf (eIS l) = [eIS l] := by cases l <;> rfl
def optE (l : List (List Int)) : Option (List (List Int)) := if l = [] then none else some l
theorem lIS_optE {l : List (List Int)} : lIS (optE l) = l := by
  unfold optE
  split
  · rename_i h
    rw [h]
    rfl
  · rfl
def eHy (n : Int) (o : Option (List (List Int))) : AV := .agg [.int .i64 n, eIS o]
def edges (seed : Int) (keys : List Str) (seg : Int) : List (List Int) := keys.map fun k => tri seed k seg 3
theorem edges_len {seed seg : Int} {keys : List Str} : (edges seed keys seg).length = keys.length := by simp [edges]
theorem edges_take {seed seg : Int} {keys : List Str} {i : Nat} (hi : i < keys.length) : (edges seed keys seg).take (i + 1) = (edges seed keys seg).take i ++ [tri seed (keys.getD i []) seg 3] := by
  have h1 : keys[i]?.toList = [keys.getD i []] := by simp [hi]
  unfold edges
  rw [← List.map_take, List.take_add_one, h1, List.map_append, List.map_take]
  rfl
theorem tri_some {o : Option (List Int)} {seed seg : Int} {key : Str} (h : lI o = tri seed key seg 3) : o = some (tri seed key seg 3) := by
  cases o with
  | none =>
    have := congrArg List.length h
    rw [tri_len] at this
    cases this
  | some l => exact congrArg some h
theorem S1.vwE {h : H} {n0 n : Nat} {v : AV} {l : List (List Int)} {B : List Nat} (hs : S1 h 1 v n (l.map fun e => eI (some e)) B) (hb : ∀ b ∈ B, n0 ≤ b) (hn : l = [] → v = .nils) : Vw h n0 v (eIS (optE l)) := by
  have hvw := hs.vw (ts := l.map fun e => eI (some e)) hb rfl (one_map fun _ => rfl) (fun i y t hy ht => by
    rw [hy] at ht
    injection ht with ht
    subst ht
    obtain ⟨s, _, rfl⟩ := List.mem_map.1 (List.mem_of_getElem? hy)
    exact .free free_eI)
  unfold optE
  by_cases hl : l = []
  · have := hn hl
    subst this hl
    exact .free free_nils
  · rw [if_neg hl]
    rcases hvw with ⟨h0, _, _⟩ | ⟨_, hv⟩
    · have := hs.1
      simp at this
      exact absurd (List.eq_nil_of_length_eq_zero (by omega)) hl
    · have : l.length = n := by simpa using hs.1
      subst this
      exact hv
/-- The edges so far, in a box. -/
def HyI (h h' : H) (n : Int) (E : List (List Int)) : Prop :=
  h'.cells h.length = some [.int .i64 0, .nils] ∧ ∃ v B, h'.cells (h.length + 1) = some [.int .i64 n, v] ∧ S1 h' 1 v E.length (E.map fun e => eI (some e)) B ∧ (∀ b ∈ B, h.length + 2 ≤ b) ∧ (E = [] → v = .nils)

attribute [push_cast] lenA_eIS iaddr_eIS get_IS one_eIS cellsOf_eIS one_eI_ cellsOf_eI_ fillA_eI
theorem getD_mem {α : Type} {L : List α} {k : Nat} {d : α} (hk : k < L.length) : L.getD k d ∈ L := by
  rw [List.getD_eq_getElem?_getD, List.getElem?_eq_getElem hk]
  exact List.getElem_mem hk

/-- How often a place lies in the first so many edges that are not gone. -/
def cnt (E : List (List Int)) (gone : List Bool) : Nat → Int → Nat
  | 0, _ => 0
  | i + 1, p => cnt E gone i p + (if gone.getD i false then 0 else (E.getD i []).count p)
/-- The single places, the least first. -/
def sing (n : Nat) (E : List (List Int)) (gone : List Bool) : List Nat := (List.range n).filter fun p => decide (cnt E gone E.length (p : Int) = 1)
def singTo (n : Nat) (E : List (List Int)) (gone : List Bool) (i : Nat) : List Nat := (List.range i).filter fun p => decide (cnt E gone E.length (p : Int) = 1)
theorem singTo_succ {n : Nat} {E : List (List Int)} {gone : List Bool} {i : Nat} : singTo n E gone (i + 1) = if cnt E gone E.length (i : Int) = 1 then singTo n E gone i ++ [i] else singTo n E gone i := by
  unfold singTo
  rw [List.range_succ, List.filter_append]
  by_cases h : cnt E gone E.length (i : Int) = 1 <;> simp [h]
theorem singTo_len {n : Nat} {E : List (List Int)} {gone : List Bool} {i : Nat} : (singTo n E gone i).length ≤ i := Nat.le_trans (List.length_filter_le _ _) (by simp)
def leftTo (gone : List Bool) (i : Nat) : List Nat := (List.range i).filter fun p => !gone.getD p false
theorem leftTo_succ {gone : List Bool} {i : Nat} : leftTo gone (i + 1) = if gone.getD i false then leftTo gone i else leftTo gone i ++ [i] := by
  unfold leftTo
  rw [List.range_succ, List.filter_append]
  cases h : gone.getD i false
  · simp only [List.filter_cons, h, List.filter_nil, Bool.not_false, if_true, Bool.false_eq_true, if_false]
  · simp only [List.filter_cons, h, List.filter_nil, Bool.not_true, if_true, Bool.false_eq_true, if_false, List.append_nil]
theorem leftTo_len {gone : List Bool} {i : Nat} : (leftTo gone i).length ≤ i := Nat.le_trans (List.length_filter_le _ _) (by simp)
def nI (l : List Nat) : List Int := l.map fun x : Nat => (x : Int)
/-- The edge that holds a place, of those that are not gone. -/
def edgeOf (E : List (List Int)) (gone : List Bool) (p : Int) : Nat := ((List.range E.length).find? fun i => !gone.getD i false && decide (p ∈ E.getD i [])).getD 0
theorem cnt_pos {E : List (List Int)} {gone : List Bool} {p : Int} : ∀ {i : Nat}, 0 < cnt E gone i p → ∃ k, k < i ∧ gone.getD k false = false ∧ p ∈ E.getD k []
  | 0, h => by simp [cnt] at h
  | i + 1, h => by
    simp only [cnt] at h
    by_cases h0 : 0 < cnt E gone i p
    · obtain ⟨k, h1, h2⟩ := cnt_pos h0
      exact ⟨k, by omega, h2⟩
    · by_cases hg : gone.getD i false = true
      · rw [if_pos hg] at h
        omega
      · rw [if_neg hg] at h
        exact ⟨i, by omega, by simpa using hg, List.count_pos_iff.1 (by omega)⟩
theorem edgeOf_spec {E : List (List Int)} {gone : List Bool} {p : Int} (h : 0 < cnt E gone E.length p) : edgeOf E gone p < E.length ∧ gone.getD (edgeOf E gone p) false = false ∧ p ∈ E.getD (edgeOf E gone p) [] ∧ ∀ k, k < edgeOf E gone p → gone.getD k false = true ∨ p ∉ E.getD k [] := by
  obtain ⟨k, h1, h2, h3⟩ := cnt_pos h
  unfold edgeOf
  cases hf : (List.range E.length).find? fun i => !gone.getD i false && decide (p ∈ E.getD i []) with
  | none =>
    rw [List.find?_eq_none] at hf
    have := hf k (List.mem_range.2 h1)
    rw [h2, decide_eq_true h3] at this
    exact absurd rfl this
  | some i =>
    have hi := List.find?_some hf
    have hm := List.mem_range.1 (List.mem_of_find?_eq_some hf)
    simp only [Bool.and_eq_true, Bool.not_eq_true', decide_eq_true_eq] at hi
    refine ⟨hm, hi.1, hi.2, fun k hk => ?_⟩
    have hk : k < i := hk
    obtain ⟨xs, ys, he, hn⟩ := (List.find?_eq_some_iff_append.1 hf).2
    have hka : k ∈ xs := by
      have hlen : xs.length = i := by
        have h5 : (List.range E.length)[xs.length]? = some i := by rw [he]; simp
        rw [List.getElem?_range (by
          have := congrArg List.length he
          simp at this
          omega)] at h5
        injection h5
      have h6 : (List.range E.length)[k]? = some k := List.getElem?_range (by omega)
      rw [he, List.getElem?_append_left (by omega)] at h6
      exact List.mem_of_getElem? h6
    have := hn k hka
    cases hg : gone.getD k false with
    | true => exact .inl rfl
    | false =>
      right
      intro hm2
      rw [hg, decide_eq_true hm2] at this
      cases this

theorem ow_atoms_eq2 {h : H} : ∀ {ts cs : List AV} {G : Nat → Prop}, Ow h cs ts G → (∀ t ∈ ts, M.atom t = true) → cs = ts
  | [], cs, G, ho, _ => List.eq_nil_of_length_eq_zero ho.len.symm
  | t :: ts, [], G, ho, _ => by cases ho
  | t :: ts, x :: cs, G, ho, ha => by
    obtain ⟨F, F', f1, f2, _, _⟩ := ho.uncons
    rw [f1.atomOf (ha t (by simp)), ow_atoms_eq2 f2 fun u hu => ha u (by simp [hu])]

/-- Numbers that came back, as they lie. -/
theorem ow_intsP {h : H} {x : AV} {l : List Int} {G : Nat → Prop} (ho : Ow h [x] [eI (some l)] G) : ∃ b, x = .sl b 0 1 l.length l.length ∧ G b ∧ h.cells b = some (l.map (.int .i64)) := by
  obtain ⟨b, cs, F, rfl, hc, hcl, hbn, hF, hin, hre⟩ := (show Ow h [x] [.ro 1 (l.map (.int .i64)) l.length] G from ho).open_
  refine ⟨b, rfl, hbn, ?_⟩
  rw [hc, ow_atoms_eq2 hin (by simp [M.atom])]
def cSt (s : Nat × Nat) : List AV := [.int .i64 s.1, .int .i64 s.2]
def eSt (l : List (Nat × Nat)) : AV := .ro 2 (l.flatMap cSt) l.length
/-- Peeling: the least single place each time. -/
def peelF (n : Nat) (E : List (List Int)) : Nat → List Bool → List (Nat × Nat) → List (Nat × Nat) × List Bool
  | 0, gone, st => (st, gone)
  | k + 1, gone, st => match sing n E gone with
    | [] => (st, gone)
    | p :: _ => peelF n E k (gone.set (edgeOf E gone (p : Int)) true) (st ++ [(edgeOf E gone (p : Int), p)])
theorem peelF_end {n : Nat} {E : List (List Int)} {gone : List Bool} {st : List (Nat × Nat)} (h : sing n E gone = []) : ∀ k, peelF n E k gone st = (st, gone)
  | 0 => rfl
  | k + 1 => by simp only [peelF, h]
theorem peelF_next {n : Nat} {E : List (List Int)} {gone : List Bool} {st : List (Nat × Nat)} {p : Nat} {ps : List Nat} (h : sing n E gone = p :: ps) {k : Nat} : peelF n E (k + 1) gone st = peelF n E k (gone.set (edgeOf E gone (p : Int)) true) (st ++ [(edgeOf E gone (p : Int), p)]) := by simp only [peelF, h]
def peelV (n : Nat) (E : List (List Int)) : List (Nat × Nat) × List Bool := peelF n E E.length (List.replicate E.length false) []
theorem sing_mem {n : Nat} {E : List (List Int)} {gone : List Bool} {p : Nat} (h : p ∈ sing n E gone) : p < n ∧ cnt E gone E.length (p : Int) = 1 := by
  unfold sing at h
  rw [List.mem_filter, List.mem_range, decide_eq_true_eq] at h
  exact h
theorem count_set {l : List Bool} : ∀ {i : Nat}, i < l.length → l.getD i false = false → (l.set i true).count true = l.count true + 1 := by
  induction l with
  | nil => intro i hi; simp at hi
  | cons b l ih =>
    intro i hi hf
    cases i with
    | zero =>
      have hb : b = false := hf
      subst hb
      simp
    | succ i =>
      have := ih (i := i) (by simpa using hi) (by simpa using hf)
      simp only [List.set_cons_succ, List.count_cons, this]
      omega
theorem count_all {l : List Bool} (h : l.count true = l.length) {k : Nat} (hk : k < l.length) : l.getD k false = true := by
  have := List.count_eq_length.1 h (l.getD k false) (getD_mem hk)
  exact this.symm
theorem cells_keep {h h' : H} {b : Nat} {cs : List AV} (hk : h'[b]? = h[b]?) (hc : h.cells b = some cs) : h'.cells b = some cs := by
  rw [cells_eq, hk, ← cells_eq]
  exact hc

--eng eB cB
structure Bt where
  size : Int
  words : Option (List Int)
  deriving Inhabited
def cB (b : Bt) : List AV := [.int .i64 b.size, eI b.words]
def eB (b : Bt) : AV := .agg (cB b)
theorem free_cB {b : Bt} : ∀ c ∈ cB b, Free c := free_cons_ free_int (free_cons_ free_eI free_nil_)
theorem free_eB {b : Bt} : Free (eB b) := free_agg free_cB
/-- The last word has no bit behind the size. -/
def lastOk (size : Int) (ws : List Int) : Bool := decide (size % 16 = 0) || decide (Int.fdiv (ws.getD (ws.length - 1) 0) (2 ^ (min (size % 16).toNat IntKind.i64.bits)) = 0)
def okWords (ws : List Int) : Bool := ws.all fun w => decide (0 ≤ w) && decide (w ≤ 65535)
def okBt (b : Bt) : Bool := (decide (0 ≤ b.size) && decide (b.size ≤ 4096)) && (decide (((lI b.words).length : Int) = (b.size + 15) / 16) && (okWords (lI b.words) && lastOk b.size (lI b.words)))
attribute [push_cast] eB cB
theorem at_word {B m i : Nat} {ws : List Int} (hw : ws = wordsN B m) (hi : i < 16 * m) : decide (bitsI .and .i64 (Int.fdiv (ws.getD ((i : Int) / 16).toNat 0) (2 ^ (min ((i : Int) % 16).toNat IntKind.i64.bits))) 1 = 1) = B.testBit i := by
  have e1 : ((i : Int) / 16).toNat = i / 16 := by omega
  have e2 : ((i : Int) % 16).toNat = i % 16 := by omega
  rw [hw, e1, e2, wordsN_get (by omega), at_bit wordN_lt (by omega), wordN_bit (by omega)]
  congr 1
  omega

theorem okBt_num {b : Bt} (h : okBt b = true) : lI b.words = wordsN (numW (lI b.words)) (lI b.words).length ∧ 0 ≤ b.size ∧ b.size ≤ 4096 ∧ ((lI b.words).length : Int) = (b.size + 15) / 16 := by
  simp only [okBt, okWords, Bool.and_eq_true, decide_eq_true_eq, List.all_eq_true] at h
  exact ⟨(wordsN_num h.2.2.1).symm, h.1.1, h.1.2, h.2.1⟩

def okCh (c : UInt8) : Bool := decide (32 ≤ (c.toNat : Int)) && decide ((c.toNat : Int) ≤ 125)
def plain (s : Str) : Bool := s.all okCh
def plainV (s : Str) : Bool := plain s && decide ((s.length : Int) ≤ 6000)
/-- The checksum of the first so many. -/
def chk (s : Str) : Nat → Int
  | 0 => 0
  | i + 1 => (chk s i + ((i : Int) + 1) * ((s.getD i 0).toNat : Int)) % 65521
theorem chk_bd (s : Str) : ∀ i, 0 ≤ chk s i ∧ chk s i < 65521
  | 0 => by simp [chk]
  | i + 1 => by
    unfold chk
    omega
def sealT (s : Str) : Str := s ++ 126 :: Lib.decDigits (chk s s.length).toNat
def sealV (s : Str) : AV := if plainV s then .tup [.str (sealT s), .bool true] else .tup [.str [], .bool false]
theorem free_sealV {s : Str} : Free (sealV s) := by
  unfold sealV
  split <;> exact free_tup (free_cons_ free_str (free_cons_ free_bool free_nil_))
theorem plain_take {s : Str} {i : Nat} (hi : i < s.length) : plain (s.take (i + 1)) = (plain (s.take i) && okCh (s.getD i 0)) := by
  unfold plain
  rw [List.take_add_one, List.all_append]
  simp [hi]
theorem plain_no {s : Str} {i : Nat} (hi : i < s.length) (hf : okCh (s.getD i 0) = false) : plain s = false := by
  unfold plain
  rw [List.all_eq_false]
  exact ⟨s.getD i 0, by simp [hi], by rw [hf]; simp⟩
theorem itoa_nn {n : Int} (h : 0 ≤ n) : Lib.itoa n = Lib.decDigits n.toNat := by
  unfold Lib.itoa
  rw [if_neg (by omega)]
theorem dec_len {n : Nat} (h : n < 18446744073709551616) : (Lib.decDigits n).length ≤ 20 := by
  rw [Lib.decDigits_length]
  exact Lib.nDigits_le20 n h
theorem dec_rec {n : Nat} : Lib.decDigits n = if n < 10 then [UInt8.ofNat (48 + n)] else Lib.decDigits (n / 10) ++ [UInt8.ofNat (48 + n % 10)] := by
  rw [Lib.decDigits]
  split <;> rfl
theorem dec_plain : ∀ n : Nat, ∀ c ∈ Lib.decDigits n, 48 ≤ c.toNat ∧ c.toNat ≤ 57 := fun n => by
  induction n using Nat.strongRecOn with
  | _ n ih =>
    rw [dec_rec]
    by_cases hn : n < 10
    · rw [if_pos hn]
      intro c hc
      simp at hc
      subst hc
      simp
      omega
    · rw [if_neg hn]
      intro c hc
      rcases List.mem_append.1 hc with hc | hc
      · exact ih (n / 10) (by omega) c hc
      · simp at hc
        subst hc
        simp
        omega

theorem flatMap_eq {α β : Type} {f g : α → List β} : ∀ {l : List α}, (∀ a ∈ l, f a = g a) → l.flatMap f = l.flatMap g
  | [], _ => rfl
  | a :: l, h => by
    rw [List.flatMap_cons, List.flatMap_cons, h a (by simp), flatMap_eq fun b hb => h b (by simp [hb])]
theorem argsFit_cons {s : Sh} {ss : List Sh} {zs : List AV} (h : ArgsFit (s :: ss) zs) : ∃ xs ys, zs = argOf s xs :: ys ∧ Fit s xs ∧ ArgsFit ss ys := by
  cases h with
  | cons h hr => exact ⟨_, _, rfl, h, hr⟩
theorem argsFit_nil {zs : List AV} (h : ArgsFit [] zs) : zs = [] := by cases h; rfl

theorem fit_rows {α : Type} [Inhabited α] {s : Sh} {w : Nat} {f : α → List AV} (hf : ∀ xs, Fit s xs → ∃ a, xs = f a) {zs : List AV} (h : Fit (.sl s w) zs) : zs = [.nils] ∨ ∃ l : List α, zs = [.ro w (l.flatMap f) l.length] := by
  cases h with
  | nil => exact .inl rfl
  | @sl _ _ n g hm hl h =>
    have hg : ∀ i, ∃ a : α, i < n → g i = f a := fun i => by
      by_cases hi : i < n
      · obtain ⟨a, ha⟩ := hf _ (h i hi)
        exact ⟨a, fun _ => ha⟩
      · exact ⟨default, fun h => absurd h hi⟩
    refine .inr ⟨(List.range n).map fun i => Classical.choose (hg i), ?_⟩
    rw [List.length_map, List.length_range, List.flatMap_map]
    congr 2
    exact flatMap_eq fun i hi => Classical.choose_spec (hg i) (List.mem_range.1 hi)
theorem flatMap_one {α : Type} {f : α → AV} : ∀ {l : List α}, l.flatMap (fun a => [f a]) = l.map f
  | [] => rfl
  | a :: l => by rw [List.flatMap_cons, flatMap_one]; rfl
def u8s (s : Str) : List AV := s.map fun c => .int .u8 (c.toNat : Int)
theorem asInts_u8s : ∀ s : Str, asInts (u8s s) = some s
  | [] => rfl
  | c :: s => by
    have ih := asInts_u8s s
    unfold u8s at ih ⊢
    rw [List.map_cons, asInts, ih]
    simp
theorem cbs_S1 {h : H} {v : AV} {s : Str} {n : Nat} {B : List Nat} (hs : S1 h 1 v n (u8s s) B) : cbsA h v = some (.str s) := by
  obtain ⟨hl, hs⟩ := hs
  have hn : s.length = n := by
    unfold u8s at hl
    simpa using hl
  rcases hs with ⟨rfl, h0, _⟩ | ⟨b, rfl, _, hc⟩
  · subst h0
    rw [List.eq_nil_of_length_eq_zero hn]
    rfl
  · have hul : (u8s s).length = n := by simpa using hl
    simp only [cbsA, hc, Option.bind_some, if_true]
    rw [if_pos (by omega), List.drop_zero, List.take_of_length_le (by omega), asInts_u8s]
    rfl
def bitC (b : Bool) : UInt8 := if b then 49 else 48
def textB (B n : Nat) : Str := (List.range n).map fun i => bitC (B.testBit i)
theorem textB_succ {B n : Nat} : u8s (textB B (n + 1)) = u8s (textB B n) ++ [.int .u8 ((bitC (B.testBit n)).toNat : Int)] := by
  simp [u8s, textB, List.range_succ]
/-- The loop: what is written so far, behind the box. -/
def TxI (h h' : H) (b : Bt) (v : AV) (i : Nat) : Prop := h.length < h'.length ∧ H.cells h' h.length = some (cB b) ∧ ∃ Bk, S1 h' 1 v i (u8s (textB (numW (lI b.words)) i)) Bk ∧ ∀ c ∈ Bk, h.length < c
theorem TxI.app {h h' : H} {b : Bt} {v : AV} {i : Nat} {x : Int} {by_ : Nat} {pm : Nat → Prop} {Q : AV → H → Prop} (ht : TxI h h' b v i) (hpm : ∀ c, h.length < c → pm c) (hx : x = ((bitC ((numW (lI b.words)).testBit i)).toNat : Int)) (hb : (i + 1) * by_ ≤ 140737488355328)
    (hQ : ∀ v' h'', TxI h h'' b v' (i + 1) → Q v' h'') : apA pm (h' ++ [some (.cells [.int .u8 x])]) Q 1 by_ (some ([.int .u8 x], 1)) v := by
  obtain ⟨t1, t2, Bk, t3, t4⟩ := ht
  have t5 := t3.frame (h' := h' ++ [some (.cells [.int .u8 x])]) fun c hc => List.getElem?_append_left (t3.lt c hc)
  refine t5.app (fun c hc => hpm c (t4 c hc)) rfl (by decide) hb (fun v' h'' B' q1 q2 q3 q4 => hQ v' h'' ⟨?_, ?_, B', ?_, fun c hc => ?_⟩)
  · simp at q2
    omega
  · rw [cells_eq, q3 h.length (by simp; omega) (fun hc => absurd (t4 _ hc) (Nat.lt_irrefl _)), List.getElem?_append_left t1, ← cells_eq]
    exact t2
  · rw [textB_succ, ← hx]
    exact q1
  · rcases q4 c hc with h5 | h5
    · exact t4 c h5
    · simp at h5
      omega

def eU : Option (List UInt8) → AV
  | none => .nils
  | some l => .ro 1 (u8s l) l.length
def lU : Option (List UInt8) → List UInt8
  | none => []
  | some l => l
theorem lenA_eU {l : Option (List UInt8)} : lenA (eU l) = some (.int .i64 (lU l).length) := by cases l <;> rfl
theorem iaddr_eU {l : Option (List UInt8)} {k : IntKind} {n : Int} (h1 : 0 ≤ n) (h2 : n < (lU l).length) : iaddrA 1 (eU l) (.int k n) = some (.rad (u8s (lU l)) n.toNat) := by
  cases l with
  | none => simp [lU] at h2; omega
  | some l => exact (iaddrA_ro h1 h2).trans (by simp [lU])
theorem get_U {l : List UInt8} {i : Nat} (hi : i < l.length) : (u8s l)[i]? = some (.int .u8 ((l.getD i 0).toNat : Int)) := by simp [u8s, hi]
theorem one_eU {l : Option (List UInt8)} : one (eU l) = true := by cases l <;> rfl
theorem cellsOf_eU {l : Option (List UInt8)} : cellsOf (eU l) = [eU l] := by cases l <;> rfl
theorem ok_eU {l : Option (List UInt8)} (h : OkV (eU l)) : (lU l).length ≤ 9223372036854775807 := by
  cases l with
  | none => simp [lU]
  | some l => exact h.ro.1
attribute [push_cast] lenA_eU iaddr_eU get_U one_eU cellsOf_eU
/-- The cursor in block b: what it reads, and how far it may be. -/
def CurI (h : H) (b : Nat) (c : Option (List UInt8)) (K : Nat) : Prop := ∃ (at_ : Nat) (sd : Int), h.cells b = some [eU c, .int .i64 at_, .int .u64 sd] ∧ at_ ≤ K
/-- Nothing else is touched. -/
def CurS (h h' : H) (b : Nat) (c : Option (List UInt8)) (K : Nat) : Prop := h'.length = h.length ∧ (∀ b', b' ≠ b → h'[b']? = h[b']?) ∧ CurI h' b c K
theorem CurI.lt {h : H} {b K : Nat} {c : Option (List UInt8)} (hc : CurI h b c K) : b < h.length := by
  obtain ⟨a, s, h1, _⟩ := hc
  exact cells_lt h1
theorem CurI.frame {h h' : H} {b K : Nat} {c : Option (List UInt8)} (hc : CurI h b c K) (hk : h'[b]? = h[b]?) : CurI h' b c K := by
  obtain ⟨a, s, h1, h2⟩ := hc
  exact ⟨a, s, by rw [cells_eq, hk, ← cells_eq]; exact h1, h2⟩
theorem CurI.mono {h : H} {b K K' : Nat} {c : Option (List UInt8)} (hc : CurI h b c K) (hk : K ≤ K') : CurI h b c K' := by
  obtain ⟨a, s, h1, h2⟩ := hc
  exact ⟨a, s, h1, by omega⟩
theorem and255 (x : Int) : 0 ≤ bitsI .and .u64 x 255 ∧ bitsI .and .u64 x 255 ≤ 255 := by
  have h1 : (BitVec.ofInt 64 x &&& BitVec.ofInt 64 255).toNat ≤ 255 := by
    rw [BitVec.toNat_and]
    exact Nat.le_trans Nat.and_le_right (by decide)
  have h2 : bitsI .and .u64 x 255 = ((BitVec.ofInt 64 x &&& BitVec.ofInt 64 255).toNat : Int) := by
    show IntKind.u64.wrap ((BitVec.ofInt 64 x &&& BitVec.ofInt 64 255).toNat : Int) = _
    rw [IntKind.wrap_u64]
    omega
  rw [h2]
  omega
theorem wrap_and255 (x : Int) : IntKind.i64.wrap (bitsI .and .u64 x 255) = bitsI .and .u64 x 255 := wrap_ok (by have := and255 x; omega) (by have := and255 x; omega)
theorem cells_wr {h : H} {b : Nat} (hb : b < h.length) (cs : List AV) : H.cells (wr h b cs) b = some cs := by
  rw [cells_eq]
  unfold wr
  rw [List.getElem?_set_self hb]
  rfl
theorem wr_wr {h : H} {b : Nat} (cs cs' : List AV) : wr (wr h b cs) b cs' = wr h b cs' := by
  unfold wr
  rw [List.set_set]
/-- The text that is drawn, so far: behind the cursor. -/
def PlI (h0 h' : H) (b : Nat) (c : Option (List UInt8)) (K : Nat) (v : AV) (s : Str) : Prop :=
  h0.length ≤ h'.length ∧ b < h0.length ∧ CurI h' b c K ∧ ∃ B, S1 h' 1 v s.length (u8s s) B ∧ ∀ x ∈ B, h0.length ≤ x
theorem PlI.step {h0 h' h2 : H} {b K K' : Nat} {c : Option (List UInt8)} {v : AV} {s : Str} (hp : PlI h0 h' b c K v s) (hs : CurS h' h2 b c K') : PlI h0 h2 b c K' v s := by
  obtain ⟨p1, p2, _, B, p3, p4⟩ := hp
  obtain ⟨s1, s2, s3⟩ := hs
  exact ⟨by omega, p2, s3, B, p3.frame fun x hx => s2 x (fun he => by have := p4 x hx; omega), p4⟩
theorem PlI.app {h0 h' : H} {b K by_ : Nat} {c : Option (List UInt8)} {v : AV} {s : Str} {x : Int} {ch : UInt8} {pm : Nat → Prop} {Q : AV → H → Prop} (hp : PlI h0 h' b c K v s) (hpm : ∀ x, h0.length ≤ x → pm x) (hx : x = (ch.toNat : Int)) (hb : (s.length + 1) * by_ ≤ 140737488355328)
    (hQ : ∀ v' h'', PlI h0 h'' b c K v' (s ++ [ch]) → Q v' h'') : apA pm (h' ++ [some (.cells [.int .u8 x])]) Q 1 by_ (some ([.int .u8 x], 1)) v := by
  obtain ⟨p1, p2, p3, B, p4, p5⟩ := hp
  have p6 := p4.frame (h' := h' ++ [some (.cells [.int .u8 x])]) fun y hy => List.getElem?_append_left (p4.lt y hy)
  refine p6.app (fun y hy => hpm y (p5 y hy)) rfl (by decide) hb (fun v' h'' B' q1 q2 q3 q4 => hQ v' h'' ⟨?_, p2, p3.frame ?_, B', ?_, fun y hy => ?_⟩)
  · simp at q2
    omega
  · rw [q3 b (by simp; omega) (fun hy => by have := p5 b hy; omega), List.getElem?_append_left p3.lt]
  · have e1 : u8s (s ++ [ch]) = u8s s ++ [.int .u8 x] := by simp [u8s, hx]
    rw [e1]
    simpa using q1
  · rcases q4 y hy with h5 | h5
    · exact p5 y h5
    · simp at h5
      omega
theorem PlI.more {h0 h' l : H} {b K : Nat} {c : Option (List UInt8)} {v : AV} {s : Str} (hp : PlI h0 h' b c K v s) : PlI h0 (h' ++ l) b c K v s := by
  obtain ⟨p1, p2, p3, B, p4, p5⟩ := hp
  exact ⟨by simp; omega, p2, p3.frame (List.getElem?_append_left p3.lt), B, p4.frame fun x hx => List.getElem?_append_left (p4.lt x hx), p5⟩
theorem PlI.monoK {h0 h' : H} {b K K' : Nat} {c : Option (List UInt8)} {v : AV} {s : Str} (hp : PlI h0 h' b c K v s) (hk : K ≤ K') : PlI h0 h' b c K' v s := by
  obtain ⟨p1, p2, p3, p4⟩ := hp
  exact ⟨p1, p2, p3.mono hk, p4⟩
theorem PlI.lenA {h0 h' : H} {b K : Nat} {c : Option (List UInt8)} {v : AV} {s : Str} (hp : PlI h0 h' b c K v s) : lenA v = some (.int .i64 s.length) := by
  obtain ⟨p1, p2, p3, B, ⟨_, p4⟩, p5⟩ := hp
  rcases p4 with ⟨rfl, h0, _⟩ | ⟨b, rfl, _, _⟩
  · rw [h0]; rfl
  · rfl
theorem PlI.cbs {h0 h' : H} {b K : Nat} {c : Option (List UInt8)} {v : AV} {s : Str} (hp : PlI h0 h' b c K v s) : cbsA h' v = some (.str s) := by
  obtain ⟨p1, p2, p3, B, p4, p5⟩ := hp
  exact cbs_S1 p4
theorem over4 (x0 x1 x2 x3 y : AV) : over [x0, x1, x2, x3] 0 [y] = [y, x1, x2, x3] ∧ over [x0, x1, x2, x3] 1 [y] = [x0, y, x2, x3] ∧ over [x0, x1, x2, x3] 2 [y] = [x0, x1, y, x3] ∧ over [x0, x1, x2, x3] 3 [y] = [x0, x1, x2, y] := ⟨rfl, rfl, rfl, rfl⟩

/-- What is new and seen is frozen; what is old stays, as the call has left it. -/
theorem Call.freezeF {P : Program} {f : FuncId} {args : List AV} {h : H} {W : Nat → Prop} {R : AV → H → Prop} (hc : Call P f args h W (fun x h' => ∃ t, Vw h' h.length x t ∧ R t h')) : Call P f args h W (fun x g => ∃ h', g = M.filt (fun b => decide (b < h.length)) h' ∧ R x h') := by
  refine ⟨hc.1, fun S w μ cargs hr ha => (hc.2 S w μ cargs hr ha).mono ?_⟩
  rintro e w' ⟨v, x, h', S', μ', rfl, ⟨t, hvw, hR⟩, hv, hr', hs⟩
  have hlen : μ.length = h.length := hr.len
  have hvt := hvw.sound hr' (M.filt (fun b => decide (b < h.length)) μ') hv
  have hr2 := hr'.filt fun b => decide (b < h.length)
  have hf : Fwd S' w' (M.filt (fun b => decide (b < h.length)) μ') (Kept S' μ' h.length) w' (M.filt (fun b => decide (b < h.length)) μ') := ⟨fun B hB => .inl hB, fun _ _ => rfl, Nat.le_refl _, fun _ _ => .inl rfl⟩
  have hft : ∀ b, b < μ.length → (M.filt (fun b => decide (b < h.length)) μ')[b]? = μ'[b]? := fun b hb => filt_t (by simp; omega)
  refine ⟨v, t, M.filt (fun b => decide (b < h.length)) h', Kept S' μ' h.length, M.filt (fun b => decide (b < h.length)) μ', rfl, ⟨h', rfl, hR⟩, hvt, ⟨hr2.len, fun b o hb => ?_, hr2.dead, hr2.inj, fun b m hm hk => ?_, kept_lt hr', hr'.gl.fwd (fun B hB => .inl hB) (fun _ _ => rfl)⟩, ⟨⟨fun B hB => .inl (hs.s B hB), fun B hB => hs.blk B hB, ?_, fun b hb => ?_⟩, hs.size, hs.os, hs.output, hs.tape, hs.drawn, fun b hb hnW => ?_⟩⟩
  · obtain ⟨m, hm, ho⟩ := hr2.obj b o hb
    exact ⟨m, hm, ho.fwd hf rfl⟩
  · obtain ⟨h1, h2⟩ := filt_some hm
    rcases hk with hk | ⟨b', m', hb', hm', he⟩
    · exact hr'.out b m h2 hk
    · have := hr'.inj b' b m' m hm' h2 he
      have := of_decide_eq_true h1
      omega
  · have := hs.len
    rwa [filt_len]
  · rw [hft b hb]
    exact hs.mu b hb
  · obtain ⟨e1, e2⟩ := hs.kept b hb hnW
    exact ⟨(hft b hb).trans e1, e2⟩

/-- A call that draws: what is old stays, but for the cursor. -/
def CurF (h g : H) (b : Nat) (c : Option (List UInt8)) (K : Nat) : Prop := h.length ≤ g.length ∧ (∀ k, k < h.length → k ≠ b → g[k]? = h[k]?) ∧ CurI g b c K
theorem CurS.f {h g : H} {b K : Nat} {c : Option (List UInt8)} (hs : CurS h g b c K) : CurF h g b c K := ⟨by rw [hs.1]; exact Nat.le_refl _, fun k _ hn => hs.2.1 k hn, hs.2.2⟩
theorem CurF.refl {h : H} {b K : Nat} {c : Option (List UInt8)} (hc : CurI h b c K) : CurF h h b c K := ⟨Nat.le_refl _, fun _ _ _ => rfl, hc⟩
theorem CurF.trans {h g g2 : H} {b K K' : Nat} {c : Option (List UInt8)} (h1 : CurF h g b c K) (h2 : CurF g g2 b c K') : CurF h g2 b c K' :=
  ⟨Nat.le_trans h1.1 h2.1, fun k hk hn => (h2.2.1 k (Nat.lt_of_lt_of_le hk h1.1) hn).trans (h1.2.1 k hk hn), h2.2.2⟩
theorem CurF.mono {h g : H} {b K K' : Nat} {c : Option (List UInt8)} (h1 : CurF h g b c K) (hk : K ≤ K') : CurF h g b c K' := ⟨h1.1, h1.2.1, h1.2.2.mono hk⟩
theorem CurF.more {h g l : H} {b K : Nat} {c : Option (List UInt8)} (h1 : CurF h g b c K) : CurF h (g ++ l) b c K :=
  ⟨by rw [List.length_append]; exact Nat.le_trans h1.1 (Nat.le_add_right _ _), fun k hk hn => (List.getElem?_append_left (Nat.lt_of_lt_of_le hk h1.1)).trans (h1.2.1 k hk hn), h1.2.2.frame (List.getElem?_append_left h1.2.2.lt)⟩
theorem CurF.cells {h g : H} {b K k : Nat} {c : Option (List UInt8)} {cs : List AV} (h1 : CurF h g b c K) (hc : h.cells k = some cs) (hn : k ≠ b) : g.cells k = some cs := cells_keep (h1.2.1 k (cells_lt hc) hn) hc
/-- What such a call returns is frozen. -/
theorem Call.cur {P : Program} {f : FuncId} {args : List AV} {h : H} {W : Nat → Prop} {R : AV → Prop} {b K : Nat} {c : Option (List UInt8)} (hb : b < h.length) (hc : Call P f args h W (fun x h' => ∃ t, Vw h' h.length x t ∧ R t ∧ CurF h h' b c K)) : Call P f args h W (fun x g => R x ∧ CurF h g b c K) := by
  refine (Call.freezeF (R := fun t h' => R t ∧ CurF h h' b c K) hc).mono (fun x g hg => ?_) (fun _ _ h => h)
  obtain ⟨h', rfl, hR, h1, h2, h3⟩ := hg
  exact ⟨hR, by rw [filt_len]; exact h1, fun k hk hn => (filt_t (by simpa using hk)).trans (h2 k hk hn), h3.frame (filt_t (by simpa using hb))⟩
/-- A slice that grows while one draws. -/
def GrD {α : Type} (f : α → AV) (h g : H) (b : Nat) (c : Option (List UInt8)) (K : Nat) (v : AV) (l : List α) : Prop := CurF h g b c K ∧ b < h.length ∧ ∃ B, S1 g 1 v l.length (l.map f) B ∧ ∀ x ∈ B, h.length ≤ x
theorem GrD.start {α : Type} {f : α → AV} {h : H} {b K : Nat} {c : Option (List UInt8)} (hc : CurI h b c K) : GrD f h h b c K .nils [] := ⟨.refl hc, hc.lt, [], S1.nil, by simp⟩
theorem GrD.step {α : Type} {f : α → AV} {h g g2 : H} {b K K' : Nat} {c : Option (List UInt8)} {v : AV} {l : List α} (hg : GrD f h g b c K v l) (hF : CurF g g2 b c K') : GrD f h g2 b c K' v l := by
  obtain ⟨h1, h2, B, h3, h4⟩ := hg
  exact ⟨h1.trans hF, h2, B, h3.frame fun k hk => hF.2.1 k (h3.lt k hk) (by have := h4 k hk; omega), h4⟩
theorem GrD.more {α : Type} {f : α → AV} {h g l2 : H} {b K : Nat} {c : Option (List UInt8)} {v : AV} {l : List α} (hg : GrD f h g b c K v l) : GrD f h (g ++ l2) b c K v l := hg.step (CurF.refl hg.1.2.2).more
theorem GrD.mono {α : Type} {f : α → AV} {h g : H} {b K K' : Nat} {c : Option (List UInt8)} {v : AV} {l : List α} (hg : GrD f h g b c K v l) (hk : K ≤ K') : GrD f h g b c K' v l := hg.step ((CurF.refl hg.1.2.2).mono hk)
theorem GrD.one_ {α : Type} {f : α → AV} {h g : H} {b K : Nat} {c : Option (List UInt8)} {v : AV} {l : List α} (hg : GrD f h g b c K v l) : one v = true ∧ cellsOf v = [v] := by
  obtain ⟨h1, h2, B, h3, h4⟩ := hg
  exact h3.one_
theorem GrD.lenA {α : Type} {f : α → AV} {h g : H} {b K : Nat} {c : Option (List UInt8)} {v : AV} {l : List α} (hg : GrD f h g b c K v l) : lenA v = some (.int .i64 l.length) := by
  obtain ⟨h1, h2, B, h3, h4⟩ := hg
  rcases h3.2 with ⟨rfl, h0, _⟩ | ⟨b, rfl, _, _⟩
  · rw [h0]; rfl
  · rfl
theorem GrD.app {α : Type} {f : α → AV} {h g : H} {b K by_ : Nat} {c : Option (List UInt8)} {v : AV} {l : List α} {a : α} {x : AV} {pm : Nat → Prop} {Q : AV → H → Prop} (hg : GrD f h g b c K v l) (hx : x = f a) (hpm : ∀ k, h.length ≤ k → pm k) (hb : (l.length + 1) * by_ ≤ 140737488355328)
    (hQ : ∀ v' g2, GrD f h g2 b c K v' (l ++ [a]) → Q v' g2) : apA pm (g ++ [some (.cells [x])]) Q 1 by_ (some ([x], 1)) v := by
  obtain ⟨h1, h2, B, h3, h4⟩ := hg
  subst hx
  refine (h3.frame (h' := g ++ _) fun k hk => List.getElem?_append_left (h3.lt k hk)).app0 (new := [f a]) (k := 1) (by_ := by_) (fun k hk => hpm k (h4 k hk)) rfl hb fun u2 g2 B2 a1 a2 a3 a4 a5 => ?_
  simp only [List.length_append, List.length_cons, List.length_nil] at a2 a3 a4
  have hl := h1.1
  have hk2 : ∀ k, k < g.length → k ∉ B → g2[k]? = g[k]? := fun k hk hn => (a3 k (by omega) hn).trans (List.getElem?_append_left hk)
  refine hQ u2 g2 ⟨⟨by omega, fun k hk hn => (hk2 k (by omega) fun h5 => by have := h4 k h5; omega).trans (h1.2.1 k hk hn), h1.2.2.frame (hk2 b (by omega) fun h5 => by have := h4 b h5; omega)⟩, h2, B2, by simpa using a1, fun k hk => ?_⟩
  rcases a4 k hk with h5 | h5
  · exact h4 k h5
  · omega
def f8 (c : UInt8) : AV := .int .u8 (c.toNat : Int)
theorem GrD.cbs {h g : H} {b K : Nat} {c : Option (List UInt8)} {v : AV} {s : Str} (hg : GrD f8 h g b c K v s) : cbsA g v = some (.str s) := by
  obtain ⟨h1, h2, B, h3, h4⟩ := hg
  exact cbs_S1 h3

/-- A slice that grows, in memory of the call's own from n0 on. -/
def GsI {α : Type} (f : α → AV) (n0 : Nat) (h' : H) (v : AV) (L : List α) : Prop := n0 ≤ h'.length ∧ ∃ B, S1 h' 1 v L.length (L.map f) B ∧ ∀ k ∈ B, n0 ≤ k
theorem GsI.len {α : Type} {f : α → AV} {n0 : Nat} {h' : H} {v : AV} {L : List α} (hs : GsI f n0 h' v L) : lenA v = some (.int .i64 L.length) := by
  obtain ⟨_, B, hs, _⟩ := hs
  rcases hs.2 with ⟨rfl, h0, _⟩ | ⟨b, rfl, _⟩
  · rw [h0]
    rfl
  · rfl
theorem GsI.frame {α : Type} {f : α → AV} {n0 : Nat} {h' h2 : H} {v : AV} {L : List α} (hs : GsI f n0 h' v L) (hk : ∀ k, n0 ≤ k → k < h'.length → h2[k]? = h'[k]?) (hl : h'.length ≤ h2.length) : GsI f n0 h2 v L := by
  obtain ⟨hn, B, hs, hB⟩ := hs
  exact ⟨by omega, B, hs.frame fun c hc => hk c (hB c hc) (hs.lt c hc), hB⟩
theorem GsI.more {α : Type} {f : α → AV} {n0 : Nat} {h' : H} {v : AV} {L : List α} (hs : GsI f n0 h' v L) (l : H) : GsI f n0 (h' ++ l) v L := hs.frame (fun k _ hk => List.getElem?_append_left hk) (by simp)
theorem GsI.app {α : Type} {f : α → AV} {n0 by_ : Nat} {h' : H} {v : AV} {L : List α} {x : α} {pm : Nat → Prop} {Q : AV → H → Prop} (hs : GsI f n0 h' v L) (hpm : ∀ c, n0 ≤ c → pm c) (hL : L.length ≤ 1000000) (hby : by_ ≤ 16)
    (hQ : ∀ v' h'', GsI f n0 h'' v' (L ++ [x]) → (∀ c, c < n0 → h''[c]? = h'[c]?) → h'.length ≤ h''.length → Q v' h'') : apA pm (h' ++ [some (.cells [f x])]) Q 1 by_ (some ([f x], 1)) v := by
  obtain ⟨hn, B, hs, hB⟩ := hs
  have hs2 := hs.frame (h' := h' ++ [some (.cells [f x])]) fun c hc => List.getElem?_append_left (hs.lt c hc)
  have hmul : (L.length + 1) * by_ ≤ 1000001 * 16 := Nat.mul_le_mul (by omega) hby
  refine hs2.app (fun c hc => hpm c (hB c hc)) rfl (by decide) (by omega) fun v' h'' B' q1 q2 q3 q4 => ?_
  simp only [List.length_append, List.length_cons, List.length_nil] at q2 q4
  refine hQ v' h'' ⟨by omega, B', by simpa using q1, fun k hk => ?_⟩ (fun c hc => ?_) (by omega)
  · rcases q4 k hk with h5 | h5
    · exact hB k h5
    · omega
  · rw [q3 c (by simp; omega) (fun hb => by have := hB c hb; omega)]
    exact List.getElem?_append_left (by omega)
theorem GsI.at_ {α : Type} {f : α → AV} {n0 : Nat} {h' : H} {v : AV} {L : List α} (hs : GsI f n0 h' v L) (hne : L ≠ []) : ∃ b, v = .sl b 0 1 L.length L.length ∧ n0 ≤ b ∧ H.cells h' b = some (L.map f) := by
  obtain ⟨_, B, hs, hB⟩ := hs
  rcases hs.2 with ⟨rfl, h0, _⟩ | ⟨b, rfl, hb, hcb⟩
  · exact absurd (List.length_eq_zero_iff.1 h0) hne
  · exact ⟨b, rfl, hB b (by rw [hb]; simp), hcb⟩
theorem GsI.nil {α : Type} {f : α → AV} {n0 : Nat} {h' : H} (hn : n0 ≤ h'.length) : GsI f n0 h' .nils [] := ⟨hn, [], S1.nil, by simp⟩
theorem GsI.single {α : Type} {f : α → AV} {n0 : Nat} {h' : H} {x : α} (hn : n0 ≤ h'.length) : GsI f n0 (h' ++ [some (.cells [f x])]) (.sl h'.length 0 1 1 1) [x] := ⟨by simp; omega, [h'.length], ⟨by simp, .inr ⟨h'.length, rfl, rfl, by rw [cells_h0]; rfl⟩⟩, by simpa using hn⟩
theorem GsI.vw {α : Type} {f : α → AV} {n0 n : Nat} {h' : H} {v : AV} {L : List α} (hs : GsI f n0 h' v L) (hn : n ≤ n0) (hf : ∀ a, one (f a) = true) (hf2 : ∀ a, Free (f a)) : ∃ t, Vw h' n v t ∧ (t = .ro 1 (L.map f) L.length ∨ (t = .nils ∧ L = [])) := by
  obtain ⟨_, B, hs, hB⟩ := hs
  rcases hs.2 with ⟨rfl, h0, _⟩ | ⟨b, rfl, hb, hcb⟩
  · exact ⟨.nils, .free free_nils, .inr ⟨rfl, List.eq_nil_of_length_eq_zero h0⟩⟩
  · exact ⟨_, vw_all (by have := hB b (by rw [hb]; simp); omega) hcb (by simp) (one_map hf) (free_map_ hf2), .inl rfl⟩
/-- A list of strings, as it is viewed. -/
theorem GsI.vwS {n0 n : Nat} {h' : H} {v : AV} {L : List Str} (hs : GsI AV.str n0 h' v L) (hn : n ≤ n0) : ∃ o, Vw h' n v (eS o) ∧ lS o = L := by
  obtain ⟨t, h1, h2⟩ := hs.vw hn (fun _ => rfl) fun _ => free_str
  rcases h2 with rfl | ⟨rfl, rfl⟩
  · exact ⟨some L, h1, rfl⟩
  · exact ⟨none, h1, rfl⟩
theorem GsI.vwI {n0 n : Nat} {h' : H} {v : AV} {L : List Int} (hs : GsI (AV.int .i64) n0 h' v L) (hn : n ≤ n0) : ∃ o, Vw h' n v (eI o) ∧ lI o = L := by
  obtain ⟨t, h1, h2⟩ := hs.vw hn (fun _ => rfl) fun _ => free_int
  rcases h2 with rfl | ⟨rfl, rfl⟩
  · exact ⟨some L, h1, rfl⟩
  · exact ⟨none, h1, rfl⟩
/-- How often a place lies in the edges of a list. -/
def cntL (E : List (List Int)) (L : List Nat) (p : Int) : Nat := (L.map fun i => (E.getD i []).count p).sum
theorem cntL_snoc {E : List (List Int)} {L : List Nat} {i : Nat} {p : Int} : cntL E (L ++ [i]) p = cntL E L p + (E.getD i []).count p := by simp [cntL]
theorem cntL_left {E : List (List Int)} {gone : List Bool} {p : Int} : ∀ i, cntL E (leftTo gone i) p = cnt E gone i p
  | 0 => by simp [leftTo, cntL, cnt]
  | i + 1 => by
    rw [leftTo_succ]
    simp only [cnt]
    cases h : gone.getD i false
    · simp only [Bool.false_eq_true, if_false]
      rw [cntL_snoc, cntL_left i]
    · simp only [if_true]
      rw [cntL_left i]
      rfl
/-- The counts so far. -/
def dgT (n : Nat) (E : List (List Int)) (L : List Nat) (k : Nat) (e : List Int) (j : Nat) : List Int := (List.range n).map fun p : Nat => ((cntL E (L.take k) (p : Int) + (e.take j).count (p : Int) : Nat) : Int)
theorem dgT_len {n : Nat} {E : List (List Int)} {L : List Nat} {k : Nat} {e : List Int} {j : Nat} : (dgT n E L k e j).length = n := by simp [dgT]
theorem dgT_zero {n : Nat} {E : List (List Int)} {L : List Nat} {e : List Int} : List.replicate n (AV.int .i64 0) = (dgT n E L 0 e 0).map (.int .i64) := by
  refine List.ext_getElem? fun p => ?_
  by_cases hp : p < n
  · simp [dgT, hp, cntL]
  · rw [List.getElem?_eq_none (by simp; omega), List.getElem?_eq_none (by simp [dgT_len]; omega)]
theorem dgT_nil {n : Nat} {E : List (List Int)} {L : List Nat} {k : Nat} {e e' : List Int} : dgT n E L k e 0 = dgT n E L k e' 0 := by simp [dgT]
theorem dgT_next {n : Nat} {E : List (List Int)} {L : List Nat} {k i : Nat} {e e' : List Int} (hk : k < L.length) (hi : L.getD k 0 = i) (he : E.getD i [] = e) : dgT n E L k e e.length = dgT n E L (k + 1) e' 0 := by
  have ht : L.take (k + 1) = L.take k ++ [i] := by
    rw [List.take_add_one, ← hi]
    simp [hk]
  unfold dgT
  refine List.map_congr_left fun p _ => ?_
  rw [ht, cntL_snoc, he]
  simp
theorem dgT_get {n : Nat} {E : List (List Int)} {L : List Nat} {k : Nat} {e : List Int} {j p : Nat} (hp : p < n) : ((dgT n E L k e j).map (AV.int .i64))[p]? = some (.int .i64 ((cntL E (L.take k) (p : Int) + (e.take j).count (p : Int) : Nat) : Int)) := by simp [dgT, hp]
theorem dgT_put {n : Nat} {E : List (List Int)} {L : List Nat} {k : Nat} {e : List Int} {j p : Nat} (hj : j < e.length) (he : e.getD j 0 = (p : Int)) (hp : p < n) : over ((dgT n E L k e j).map (AV.int .i64)) p [.int .i64 ((cntL E (L.take k) (p : Int) + (e.take j).count (p : Int) : Nat) + 1 : Int)] = (dgT n E L k e (j + 1)).map (.int .i64) := by
  have htk : e.take (j + 1) = e.take j ++ [(p : Int)] := by
    rw [List.take_add_one]
    congr 1
    rw [List.getD_eq_getElem?_getD, List.getElem?_eq_getElem hj] at he
    simp only [Option.getD_some] at he
    simp [hj, he]
  rw [over_set (by simp [dgT_len, hp])]
  refine List.ext_getElem? fun q => ?_
  by_cases hq : q < n
  · by_cases h2 : q = p
    · subst h2
      rw [List.getElem?_set_self (by simp [dgT_len, hp])]
      simp [dgT, hq, htk]
      omega
    · rw [List.getElem?_set_ne (Ne.symm h2)]
      have h3 : List.count (q : Int) [(p : Int)] = 0 := by
        rw [List.count_eq_zero]
        simp
        omega
      simp [dgT, hq, htk, h3]
  · rw [List.getElem?_eq_none (by simp [dgT_len]; omega), List.getElem?_eq_none (by simp [dgT_len]; omega)]
def dgL (n : Nat) (E : List (List Int)) (L : List Nat) : List Int := (List.range n).map fun p : Nat => ((cntL E L (p : Int) : Nat) : Int)
theorem dgL_eq {n : Nat} {E : List (List Int)} {L : List Nat} {e : List Int} : dgT n E L L.length e 0 = dgL n E L := by simp [dgT, dgL]
theorem left_mem {gone : List Bool} {m i : Nat} : i ∈ leftTo gone m ↔ i < m ∧ gone.getD i false = false := by
  unfold leftTo
  rw [List.mem_filter, List.mem_range]
  simp
theorem left_pw {gone : List Bool} {m : Nat} : (leftTo gone m).Pairwise (· < ·) := List.Pairwise.filter _ List.pairwise_lt_range
theorem left_all {m : Nat} : leftTo (List.replicate m false) m = List.range m := by
  unfold leftTo
  rw [List.filter_eq_self]
  intro i hi
  have := List.mem_range.1 hi
  simp [List.getD_eq_getElem?_getD, List.getElem?_replicate, this]
theorem left_drop {gone : List Bool} {m k : Nat} (hk : k < gone.length) : leftTo (gone.set k true) m = (leftTo gone m).filter fun x => decide (x ≠ k) := by
  unfold leftTo
  rw [List.filter_filter]
  refine List.filter_congr fun i _ => ?_
  by_cases h : i = k
  · subst h
    simp [List.getD_eq_getElem?_getD, hk]
  · rw [List.getD_eq_getElem?_getD, List.getElem?_set_ne (Ne.symm h), ← List.getD_eq_getElem?_getD]
    simp [h]
theorem nI_getD {L : List Nat} {k : Nat} (hk : k < L.length) : (nI L).getD k 0 = ((L.getD k 0 : Nat) : Int) := by simp [nI, hk]
theorem nI_len {L : List Nat} : (nI L).length = L.length := by simp [nI]
theorem nI_filter {L : List Nat} {k : Nat} : (nI L).filter (fun x => decide (x ≠ (k : Int))) = nI (L.filter fun x => decide (x ≠ k)) := by
  unfold nI
  rw [List.filter_map]
  congr 1
  refine List.filter_congr fun x _ => ?_
  simp only [Function.comp]
  by_cases h : x = k
  · simp [h]
  · have h2 : ¬ (x : Int) = (k : Int) := by omega
    simp [h, h2]

theorem c_spec_peAll (n : Int) (o : Option (List (List Int))) (hl : (lIS o).length ≤ 1000) : Fn Tryz.prog 103 [eHy n o] (fun x => ∃ a : Option (List Int), x = eI a ∧ lI a = nI (List.range (lIS o).length)) := by
  refine Fn.froze_ fun h => ?_
  refine enter (by kernel_rfl) e103 (by kernel_rfl) rfl fun hok => ?_
  simp only [r103, initEnv_1]
  rw [show eHy n o = .agg [.int .i64 n, eIS o] from rfl]
  (try (simp (disch := first | omega | (simp <;> omega) | fail) only [push_cast, ↓reduceIte, Nat.reduceEqDiff, Nat.reduceAdd, Nat.reduceMul, Nat.reduceSub, Nat.reduceLT, Int.reduceToNat]))
  refine T_for (lIS o).length (fun k e h' => ∃ v, Pins e [(3, v), (7, .int .i64 (lIS o).length), (8, .int .i64 k)] ∧ GsI (AV.int .i64) (h.length + 1) h' v (nI (List.range k))) ?_ ?_
  · refine ⟨.nils, ?_⟩
    (try (simp (disch := first | omega | (simp <;> omega) | fail) only [push_cast, ↓reduceIte, Nat.reduceEqDiff, Nat.reduceAdd, Nat.reduceMul, Nat.reduceSub, Nat.reduceLT, Int.reduceToNat]))
    all_goals (try exact GsI.nil (by simp))
    done
  rintro k e h' hk ⟨v, hp, hs⟩
  refine T_pins hp fun e => ?_
  (try (simp (disch := first | omega | (simp <;> omega) | fail) only [push_cast, ↓reduceIte, Nat.reduceEqDiff, Nat.reduceAdd, Nat.reduceMul, Nat.reduceSub, Nat.reduceLT, Int.reduceToNat]))
  first | refine goC_split (fun hc => ?_) (fun hc => ?_) | refine cnd_split (fun hc => ?_) (fun hc => ?_)
  · (try (simp only [decide_eq_true_eq, decide_eq_false_iff_not, Bool.not_eq_true', Bool.not_eq_false', Bool.and_eq_true, Bool.or_eq_true, Int.not_lt, Int.not_le] at hc)); (try (simp (disch := first | omega | (simp <;> omega) | fail) only [push_cast, ↓reduceIte, Nat.reduceEqDiff, Nat.reduceAdd, Nat.reduceMul, Nat.reduceSub, Nat.reduceLT, Int.reduceToNat]))
    have hn1 : nI (List.range (k + 1)) = nI (List.range k) ++ [(k : Int)] := by simp [nI, List.range_succ]
    have hkl : (nI (List.range k)).length = k := by simp [nI]
    refine hs.app (by_ := 8) (fun c hc => by first | exact Or.inr (by omega) | exact ⟨Or.inr (by omega), by omega⟩) (by omega) (by decide) fun v' h'' q1 q2 q3 => ?_
    rw [← hn1] at q1
    (try (simp (disch := first | omega | (simp <;> omega) | fail) only [push_cast, ↓reduceIte, Nat.reduceEqDiff, Nat.reduceAdd, Nat.reduceMul, Nat.reduceSub, Nat.reduceLT, Int.reduceToNat]))
    all_goals (try exact ⟨_, rfl, q1⟩)
    all_goals (try exact q1)
    done
  · (try (simp only [decide_eq_true_eq, decide_eq_false_iff_not, Bool.not_eq_true', Bool.not_eq_false', Bool.and_eq_true, Bool.or_eq_true, Int.not_lt, Int.not_le] at hc)); (try (simp (disch := first | omega | (simp <;> omega) | fail) only [push_cast, ↓reduceIte, Nat.reduceEqDiff, Nat.reduceAdd, Nat.reduceMul, Nat.reduceSub, Nat.reduceLT, Int.reduceToNat]))
    have hke : k = (lIS o).length := by omega
    subst hke
    obtain ⟨a, w, l⟩ := hs.vwI (n := h.length) (by omega)
    have hfin : ∃ t, Vw h' h.length v t ∧ ∃ a : Option (List Int), t = eI a ∧ lI a = nI (List.range (lIS o).length) := ⟨_, w, a, rfl, l⟩
    (try (simp (disch := first | omega | (simp <;> omega) | fail) only [push_cast, ↓reduceIte, Nat.reduceEqDiff, Nat.reduceAdd, Nat.reduceMul, Nat.reduceSub, Nat.reduceLT, Int.reduceToNat]))
    all_goals (try exact hfin)
    done

theorem c_spec_peDegrees (n : Nat) (o : Option (List (List Int))) (a : Option (List Int)) (L : List Nat) (ha : lI a = nI L) (hL : ∀ i ∈ L, i < (lIS o).length) (hLl : L.length ≤ 1000) (hE : ∀ e ∈ lIS o, ∀ p ∈ e, 0 ≤ p ∧ p < (n : Int)) (hn : n ≤ 1000) (he : ∀ e ∈ lIS o, e.length ≤ 1000) (hcb : ∀ i p, cntL (lIS o) (L.take i) p ≤ 1000000) :
    Fn Tryz.prog 123 [eHy n o, eI a] (· = eI (some (dgL n (lIS o) L))) := by
  refine Fn.froze fun h => ?_
  refine enter (by kernel_rfl) e123 (by kernel_rfl) rfl fun hok => ?_
  simp only [r123, initEnv_2]
  rw [show eHy n o = .agg [.int .i64 n, eIS o] from rfl]
  have hz := fun e => dgT_zero (n := n) (E := lIS o) (L := L) (e := e)
  have hal : (lI a).length = L.length := by rw [ha, nI_len]
  (try (simp (disch := first | omega | (simp <;> omega) | fail) only [push_cast, ↓reduceIte, Nat.reduceEqDiff, Nat.reduceAdd, Nat.reduceMul, Nat.reduceSub, Nat.reduceLT, Int.reduceToNat]))
  refine T_for L.length (fun i e g => Pins e [(2, .adr h.length 0), (5, .sl (h.length + 1) 0 1 n n), (13, eI a), (14, .int .i64 L.length), (15, .int .i64 i)] ∧ (g.cells h.length = some [.int .i64 n, eIS o] ∧ h.length + 1 < g.length ∧ g.cells (h.length + 1) = some ((dgT n (lIS o) L i [] 0).map (.int .i64)))) ?_ ?_
  · have h0 : H.cells (h ++ [some (.cells [.int .i64 n, eIS o]), some (.cells (List.replicate n (AV.int .i64 0)))]) h.length = some [.int .i64 n, eIS o] := by rw [cells_h0]; rfl
    have h1 : H.cells (h ++ [some (.cells [.int .i64 n, eIS o]), some (.cells (List.replicate n (AV.int .i64 0)))]) (h.length + 1) = some ((dgT n (lIS o) L 0 [] 0).map (.int .i64)) := by rw [cells_hk, ← hz []]; rfl
    (try (simp (disch := first | omega | (simp <;> omega) | fail) only [push_cast, ↓reduceIte, Nat.reduceEqDiff, Nat.reduceAdd, Nat.reduceMul, Nat.reduceSub, Nat.reduceLT, Int.reduceToNat, hal]))
    all_goals (try exact congrArg some (hz []))
    done
  rintro i e g hi ⟨hp, hb, hlt, hc0⟩
  refine T_pins hp fun e => ?_
  (try (simp (disch := first | omega | (simp <;> omega) | fail) only [push_cast, ↓reduceIte, Nat.reduceEqDiff, Nat.reduceAdd, Nat.reduceMul, Nat.reduceSub, Nat.reduceLT, Int.reduceToNat]))
  first | refine goC_split (fun hc => ?_) (fun hc => ?_) | refine cnd_split (fun hc => ?_) (fun hc => ?_)
  · (try (simp only [decide_eq_true_eq, decide_eq_false_iff_not, Bool.not_eq_true', Bool.not_eq_false', Bool.and_eq_true, Bool.or_eq_true, Int.not_lt, Int.not_le] at hc)); (try (simp (disch := first | omega | (simp <;> omega) | fail) only [push_cast, ↓reduceIte, Nat.reduceEqDiff, Nat.reduceAdd, Nat.reduceMul, Nat.reduceSub, Nat.reduceLT, Int.reduceToNat]))
    have hi2 : i < L.length := by omega
    obtain ⟨q0, hq0⟩ : ∃ q, q = L.getD i 0 := ⟨_, rfl⟩
    have hqm : q0 < (lIS o).length := hL q0 (by rw [hq0]; simp [hi2])
    have hia0 : (lI a).getD i 0 = (q0 : Int) := by rw [ha, nI_getD hi2, hq0]
    have hial : i < (lI a).length := by omega
    have hEi := hE ((lIS o).getD q0 []) (getD_mem hqm)
    have hel := he ((lIS o).getD q0 []) (getD_mem hqm)
    obtain ⟨E1, hE1⟩ : ∃ E1, E1 = (lIS o).getD q0 [] := ⟨_, rfl⟩
    rw [← hE1] at hEi hel
    have hgE : ((lIS o).map fun e => eI (some e))[q0]? = some (eI (some E1)) := by rw [hE1]; simp [hqm]
    (try (simp (disch := first | omega | (simp <;> omega) | fail) only [push_cast, ↓reduceIte, Nat.reduceEqDiff, Nat.reduceAdd, Nat.reduceMul, Nat.reduceSub, Nat.reduceLT, Int.reduceToNat, hia0, hb, hgE]))
    refine T_for E1.length (fun j e g' => Pins e [(2, .adr h.length 0), (5, .sl (h.length + 1) 0 1 n n), (13, eI a), (14, .int .i64 L.length), (15, .int .i64 i), (23, eI (some E1)), (24, .int .i64 E1.length), (25, .int .i64 j)] ∧ (g'.cells h.length = some [.int .i64 n, eIS o] ∧ h.length + 1 < g'.length ∧ g'.cells (h.length + 1) = some ((dgT n (lIS o) L i E1 j).map (.int .i64)))) ?_ ?_
    · rw [dgT_nil (e' := E1)] at hc0
      (try (simp (disch := first | omega | (simp <;> omega) | fail) only [push_cast, ↓reduceIte, Nat.reduceEqDiff, Nat.reduceAdd, Nat.reduceMul, Nat.reduceSub, Nat.reduceLT, Int.reduceToNat]))
      all_goals (try exact ⟨rfl, hb, hc0⟩)
      done
    rintro j e g' hj ⟨hp, hb2, hlt2, hc2⟩
    refine T_pins hp fun e => ?_
    (try (simp (disch := first | omega | (simp <;> omega) | fail) only [push_cast, ↓reduceIte, Nat.reduceEqDiff, Nat.reduceAdd, Nat.reduceMul, Nat.reduceSub, Nat.reduceLT, Int.reduceToNat]))
    first | refine goC_split (fun hd => ?_) (fun hd => ?_) | refine cnd_split (fun hd => ?_) (fun hd => ?_)
    · (try (simp only [decide_eq_true_eq, decide_eq_false_iff_not, Bool.not_eq_true', Bool.not_eq_false', Bool.and_eq_true, Bool.or_eq_true, Int.not_lt, Int.not_le] at hd)); (try (simp (disch := first | omega | (simp <;> omega) | fail) only [push_cast, ↓reduceIte, Nat.reduceEqDiff, Nat.reduceAdd, Nat.reduceMul, Nat.reduceSub, Nat.reduceLT, Int.reduceToNat]))
      have hj2 : j < E1.length := by omega
      obtain ⟨q0, q1⟩ := hEi (E1.getD j 0) (getD_mem hj2)
      obtain ⟨q, hq⟩ : ∃ q : Nat, E1.getD j 0 = (q : Int) := ⟨(E1.getD j 0).toNat, (Int.toNat_of_nonneg q0).symm⟩
      have hqn : q < n := by omega
      have hgj : (E1.map (AV.int .i64))[j]? = some (.int .i64 (q : Int)) := by rw [get_I hj2, hq]
      have hij : iaddrA 1 (eI (some E1)) (.int .i64 j) = some (.rad (E1.map (AV.int .i64)) j) := (iaddrA_ro (by omega) (by omega)).trans (by simp)
      have hgd := dgT_get (E := lIS o) (L := L) (k := i) (e := E1) (j := j) hqn
      have hpt := dgT_put (E := lIS o) (L := L) (k := i) hj2 hq hqn
      have hb1 := hcb i (q : Int)
      have hb3 : (E1.take j).count (q : Int) ≤ 1000 := Nat.le_trans List.count_le_length (by simp; omega)
      have hll : ((dgT n (lIS o) L i E1 j).map (AV.int .i64)).length = n := by simp [dgT_len]
      have hpm : (h.length ≤ h.length + 1) = True := by simp
      have hbw : ∀ cs, H.cells (wr g' (h.length + 1) cs) h.length = some [.int .i64 n, eIS o] := fun cs => cells_keep (by unfold wr; rw [List.getElem?_set_ne (by omega)]) hb2
      generalize hX : cntL (lIS o) (L.take i) (q : Int) + (E1.take j).count (q : Int) = X at *
      (try (simp (disch := first | omega | (simp <;> omega) | fail) only [push_cast, ↓reduceIte, Nat.reduceEqDiff, Nat.reduceAdd, Nat.reduceMul, Nat.reduceSub, Nat.reduceLT, Int.reduceToNat, hij, hgj, hc2, hgd, hll, hpt, hpm]))
      all_goals (try exact ⟨hbw _, by simpa [wr] using hlt2, cells_wr2 hlt2⟩)
      done
    · (try (simp only [decide_eq_true_eq, decide_eq_false_iff_not, Bool.not_eq_true', Bool.not_eq_false', Bool.and_eq_true, Bool.or_eq_true, Int.not_lt, Int.not_le] at hd)); (try (simp (disch := first | omega | (simp <;> omega) | fail) only [push_cast, ↓reduceIte, Nat.reduceEqDiff, Nat.reduceAdd, Nat.reduceMul, Nat.reduceSub, Nat.reduceLT, Int.reduceToNat]))
      have hje : j = E1.length := by omega
      subst hje
      rw [dgT_next (e' := []) hi2 hq0.symm hE1.symm] at hc2
      (try (simp (disch := first | omega | (simp <;> omega) | fail) only [push_cast, ↓reduceIte, Nat.reduceEqDiff, Nat.reduceAdd, Nat.reduceMul, Nat.reduceSub, Nat.reduceLT, Int.reduceToNat]))
      all_goals (try exact ⟨hb2, hc2⟩)
      done
  · (try (simp only [decide_eq_true_eq, decide_eq_false_iff_not, Bool.not_eq_true', Bool.not_eq_false', Bool.and_eq_true, Bool.or_eq_true, Int.not_lt, Int.not_le] at hc)); (try (simp (disch := first | omega | (simp <;> omega) | fail) only [push_cast, ↓reduceIte, Nat.reduceEqDiff, Nat.reduceAdd, Nat.reduceMul, Nat.reduceSub, Nat.reduceLT, Int.reduceToNat]))
    have hie : i = L.length := by omega
    subst hie
    rw [dgL_eq] at hc0
    have hln : (dgL n (lIS o) L).length = n := by simp [dgL]
    have hres : Vw g h.length (.sl (h.length + 1) 0 1 n n) (eI (some (dgL n (lIS o) L))) := by
      have := vw_all (h := g) (n := h.length) (b := h.length + 1) (sz := 1) (len := (dgL n (lIS o) L).length) (kc := n) (by omega) hc0 (by simp) (one_map fun _ => rfl) (free_map_ fun _ => free_int)
      rw [hln] at this
      show Vw g h.length _ (.ro 1 ((dgL n (lIS o) L).map (.int .i64)) (dgL n (lIS o) L).length)
      rw [hln]
      exact this
    (try (simp (disch := first | omega | (simp <;> omega) | fail) only [push_cast, ↓reduceIte, Nat.reduceEqDiff, Nat.reduceAdd, Nat.reduceMul, Nat.reduceSub, Nat.reduceLT, Int.reduceToNat]))
    all_goals (try exact hres)
    done

theorem c_spec_peFree (n : Nat) (o : Option (List (List Int))) (a : Option (List Int)) (gone : List Bool) (ha : lI a = nI (leftTo gone (lIS o).length)) (hE : ∀ e ∈ lIS o, ∀ p ∈ e, 0 ≤ p ∧ p < (n : Int)) (hn : n ≤ 1000) (hl : (lIS o).length ≤ 1000) (he : ∀ e ∈ lIS o, e.length ≤ 1000) (hcb : ∀ i p, cntL (lIS o) ((leftTo gone (lIS o).length).take i) p ≤ 1000000) :
    Fn Tryz.prog 104 [eHy n o, eI a] (fun x => ∃ f : Option (List Int), x = eI f ∧ lI f = nI (sing n (lIS o) gone)) := by
  refine Fn.froze_ fun h => ?_
  refine enter (by kernel_rfl) e104 (by kernel_rfl) rfl fun hok => ?_
  simp only [r104, initEnv_2]
  have hll := @leftTo_len gone (lIS o).length
  have hD := c_spec_peDegrees n o a (leftTo gone (lIS o).length) ha (fun i hi => (left_mem.1 hi).1) (by omega) hE hn he hcb
  rw [show eHy n o = .agg [.int .i64 n, eIS o] from rfl] at hD ⊢
  obtain ⟨D, hDd⟩ : ∃ D, D = dgL n (lIS o) (leftTo gone (lIS o).length) := ⟨_, rfl⟩
  have hDl : D.length = n := by rw [hDd]; simp [dgL]
  have hDl2 : (lI (some D)).length = n := hDl
  have hDg : ∀ i, i < n → D.getD i 0 = ((cnt (lIS o) gone (lIS o).length (i : Int) : Nat) : Int) := fun i hi => by
    rw [hDd, ← cntL_left]
    simp [dgL, hi]
  rw [← hDd] at hD
  clear hDd
  (try (simp (disch := first | omega | (simp <;> omega) | fail) only [push_cast, ↓reduceIte, Nat.reduceEqDiff, Nat.reduceAdd, Nat.reduceMul, Nat.reduceSub, Nat.reduceLT, Int.reduceToNat]))
  refine hD.call ?_
  (try (simp (disch := first | omega | (simp <;> omega) | fail) only [push_cast, ↓reduceIte, Nat.reduceEqDiff, Nat.reduceAdd, Nat.reduceMul, Nat.reduceSub, Nat.reduceLT, Int.reduceToNat]))
  refine T_for n (fun k e h' => ∃ v, Pins e [(5, v), (10, eI (some D)), (11, .int .i64 n), (12, .int .i64 k)] ∧ GsI (AV.int .i64) (h.length + 1) h' v (nI (singTo n (lIS o) gone k))) ?_ ?_
  · refine ⟨.nils, ?_⟩
    (try (simp (disch := first | omega | (simp <;> omega) | fail) only [push_cast, ↓reduceIte, Nat.reduceEqDiff, Nat.reduceAdd, Nat.reduceMul, Nat.reduceSub, Nat.reduceLT, Int.reduceToNat, hDl2]))
    all_goals (try exact GsI.nil (by simp))
    done
  rintro k e h' hk ⟨v, hp, hs⟩
  refine T_pins hp fun e => ?_
  (try (simp (disch := first | omega | (simp <;> omega) | fail) only [push_cast, ↓reduceIte, Nat.reduceEqDiff, Nat.reduceAdd, Nat.reduceMul, Nat.reduceSub, Nat.reduceLT, Int.reduceToNat]))
  first | refine goC_split (fun hc => ?_) (fun hc => ?_) | refine cnd_split (fun hc => ?_) (fun hc => ?_)
  · (try (simp only [decide_eq_true_eq, decide_eq_false_iff_not, Bool.not_eq_true', Bool.not_eq_false', Bool.and_eq_true, Bool.or_eq_true, Int.not_lt, Int.not_le] at hc)); (try (simp (disch := first | omega | (simp <;> omega) | fail) only [push_cast, ↓reduceIte, Nat.reduceEqDiff, Nat.reduceAdd, Nat.reduceMul, Nat.reduceSub, Nat.reduceLT, Int.reduceToNat]))
    have hk2 : k < n := by omega
    have hkD : k < (lI (some D)).length := by show k < D.length; omega
    have hDk : (lI (some D)).getD k 0 = ((cnt (lIS o) gone (lIS o).length (k : Int) : Nat) : Int) := hDg k hk2
    have hsc := singTo_succ (n := n) (E := lIS o) (gone := gone) (i := k)
    have hsl := singTo_len (n := n) (E := lIS o) (gone := gone) (i := k)
    have hnl : (nI (singTo n (lIS o) gone k)).length = (singTo n (lIS o) gone k).length := nI_len
    by_cases h1 : cnt (lIS o) gone (lIS o).length (k : Int) = 1
    · rw [if_pos h1] at hsc
      have e1 : (((cnt (lIS o) gone (lIS o).length (k : Int) : Nat) : Int) = 1) = True := eq_true (by omega)
      have hn1 : nI (singTo n (lIS o) gone (k + 1)) = nI (singTo n (lIS o) gone k) ++ [(k : Int)] := by rw [hsc]; simp [nI]
      (try (simp (disch := first | omega | (simp <;> omega) | fail) only [push_cast, ↓reduceIte, Nat.reduceEqDiff, Nat.reduceAdd, Nat.reduceMul, Nat.reduceSub, Nat.reduceLT, Int.reduceToNat, hDk, e1]))
      refine hs.app (by_ := 8) (fun c hc => by first | exact Or.inr (by omega) | exact ⟨Or.inr (by omega), by omega⟩) (by omega) (by decide) fun v' h'' q1 q2 q3 => ?_
      rw [← hn1] at q1
      (try (simp (disch := first | omega | (simp <;> omega) | fail) only [push_cast, ↓reduceIte, Nat.reduceEqDiff, Nat.reduceAdd, Nat.reduceMul, Nat.reduceSub, Nat.reduceLT, Int.reduceToNat]))
      all_goals (try exact ⟨_, rfl, q1⟩)
      all_goals (try exact q1)
      done
    · rw [if_neg h1] at hsc
      have e1 : (((cnt (lIS o) gone (lIS o).length (k : Int) : Nat) : Int) = 1) = False := eq_false (by omega)
      rw [← hsc] at hs
      (try (simp (disch := first | omega | (simp <;> omega) | fail) only [push_cast, ↓reduceIte, Nat.reduceEqDiff, Nat.reduceAdd, Nat.reduceMul, Nat.reduceSub, Nat.reduceLT, Int.reduceToNat, hDk, e1]))
      all_goals (try exact ⟨_, rfl, hs⟩)
      all_goals (try exact hs)
      done
  · (try (simp only [decide_eq_true_eq, decide_eq_false_iff_not, Bool.not_eq_true', Bool.not_eq_false', Bool.and_eq_true, Bool.or_eq_true, Int.not_lt, Int.not_le] at hc)); (try (simp (disch := first | omega | (simp <;> omega) | fail) only [push_cast, ↓reduceIte, Nat.reduceEqDiff, Nat.reduceAdd, Nat.reduceMul, Nat.reduceSub, Nat.reduceLT, Int.reduceToNat]))
    have hke : k = n := by omega
    subst hke
    obtain ⟨f, w, l⟩ := hs.vwI (n := h.length) (by omega)
    have hfin : ∃ t, Vw h' h.length v t ∧ ∃ f : Option (List Int), t = eI f ∧ lI f = nI (sing k (lIS o) gone) := ⟨_, w, f, rfl, l⟩
    (try (simp (disch := first | omega | (simp <;> omega) | fail) only [push_cast, ↓reduceIte, Nat.reduceEqDiff, Nat.reduceAdd, Nat.reduceMul, Nat.reduceSub, Nat.reduceLT, Int.reduceToNat]))
    all_goals (try exact hfin)
    done

theorem c_spec_l1Has (a : Option (List Int)) (n : Int) : Fn Tryz.prog 124 [eI a, .int .i64 n] (· = .bool (decide (n ∈ lI a))) := by
  refine Fn.of free_bool fun h => ?_
  refine enter (by kernel_rfl) e124 (by kernel_rfl) rfl fun hok => ?_
  simp only [r124, initEnv_2]
  have hlen := ok_eI (okV_0 hok)
  (try (simp (disch := first | omega | (simp <;> omega) | fail) only [push_cast, ↓reduceIte, Nat.reduceEqDiff, Nat.reduceAdd, Nat.reduceMul, Nat.reduceSub, Nat.reduceLT, Int.reduceToNat]))
  refine T_for (lI a).length (fun i e h' => Pins e [(1, .int .i64 n), (7, eI a), (8, .int .i64 (lI a).length), (9, .int .i64 i)] ∧ h' = h ∧ n ∉ (lI a).take i) ?_ ?_
  · (try (simp (disch := first | omega | (simp <;> omega) | fail) only [push_cast, ↓reduceIte, Nat.reduceEqDiff, Nat.reduceAdd, Nat.reduceMul, Nat.reduceSub, Nat.reduceLT, Int.reduceToNat]))
    all_goals (try simp)
  rintro i e h' hi ⟨hp, rfl, hnd⟩
  refine T_pins hp fun e => ?_
  (try (simp (disch := first | omega | (simp <;> omega) | fail) only [push_cast, ↓reduceIte, Nat.reduceEqDiff, Nat.reduceAdd, Nat.reduceMul, Nat.reduceSub, Nat.reduceLT, Int.reduceToNat]))
  first | refine goC_split (fun hc => ?_) (fun hc => ?_) | refine cnd_split (fun hc => ?_) (fun hc => ?_)
  · (try (simp only [decide_eq_true_eq, decide_eq_false_iff_not, Bool.not_eq_true', Bool.not_eq_false', Bool.and_eq_true, Bool.or_eq_true, Int.not_lt, Int.not_le] at hc)); (try (simp (disch := first | omega | (simp <;> omega) | fail) only [push_cast, ↓reduceIte, Nat.reduceEqDiff, Nat.reduceAdd, Nat.reduceMul, Nat.reduceSub, Nat.reduceLT, Int.reduceToNat]))
    have hi2 : i < (lI a).length := by omega
    have htk : (lI a).take (i + 1) = (lI a).take i ++ [(lI a).getD i 0] := by
      rw [List.take_add_one]
      simp [hi2]
    (try (simp (disch := first | omega | (simp <;> omega) | fail) only [push_cast, ↓reduceIte, Nat.reduceEqDiff, Nat.reduceAdd, Nat.reduceMul, Nat.reduceSub, Nat.reduceLT, Int.reduceToNat]))
    first | refine goC_split (fun hd => ?_) (fun hd => ?_) | refine cnd_split (fun hd => ?_) (fun hd => ?_)
    · (try (simp only [decide_eq_true_eq, decide_eq_false_iff_not, Bool.not_eq_true', Bool.not_eq_false', Bool.and_eq_true, Bool.or_eq_true, Int.not_lt, Int.not_le] at hd)); (try (simp (disch := first | omega | (simp <;> omega) | fail) only [push_cast, ↓reduceIte, Nat.reduceEqDiff, Nat.reduceAdd, Nat.reduceMul, Nat.reduceSub, Nat.reduceLT, Int.reduceToNat]))
      symm
      rw [decide_eq_true_iff, ← hd]
      simp [hi2]
    · (try (simp only [decide_eq_true_eq, decide_eq_false_iff_not, Bool.not_eq_true', Bool.not_eq_false', Bool.and_eq_true, Bool.or_eq_true, Int.not_lt, Int.not_le] at hd)); (try (simp (disch := first | omega | (simp <;> omega) | fail) only [push_cast, ↓reduceIte, Nat.reduceEqDiff, Nat.reduceAdd, Nat.reduceMul, Nat.reduceSub, Nat.reduceLT, Int.reduceToNat]))
      rw [htk]
      simp only [List.mem_append, List.mem_singleton, not_or]
      exact ⟨hnd, fun he => hd he.symm⟩
  · (try (simp only [decide_eq_true_eq, decide_eq_false_iff_not, Bool.not_eq_true', Bool.not_eq_false', Bool.and_eq_true, Bool.or_eq_true, Int.not_lt, Int.not_le] at hc)); (try (simp (disch := first | omega | (simp <;> omega) | fail) only [push_cast, ↓reduceIte, Nat.reduceEqDiff, Nat.reduceAdd, Nat.reduceMul, Nat.reduceSub, Nat.reduceLT, Int.reduceToNat]))
    have he : (lI a).take i = lI a := List.take_of_length_le (by omega)
    rw [he] at hnd
    simp [hnd]

theorem c_spec_peWith (n : Int) (o : Option (List (List Int))) (a : Option (List Int)) (gone : List Bool) (p : Int) (ha : lI a = nI (leftTo gone (lIS o).length)) (hl : (lIS o).length ≤ 1000) (hpos : 0 < cnt (lIS o) gone (lIS o).length p) :
    Fn Tryz.prog 105 [eHy n o, eI a, .int .i64 p] (· = .int .i64 (edgeOf (lIS o) gone p)) := by
  refine Fn.of free_int fun h => ?_
  refine enter (by kernel_rfl) e105 (by kernel_rfl) rfl fun hok => ?_
  simp only [r105, initEnv_3]
  obtain ⟨s1, s2, s3, s4⟩ := edgeOf_spec hpos
  obtain ⟨k, hk⟩ : ∃ k, k = edgeOf (lIS o) gone p := ⟨_, rfl⟩
  rw [← hk] at s1 s2 s3 s4 ⊢
  have hkm : k ∈ leftTo gone (lIS o).length := left_mem.2 ⟨s1, s2⟩
  have hll := @leftTo_len gone (lIS o).length
  have hal : (lI a).length = (leftTo gone (lIS o).length).length := by rw [ha, nI_len]
  have hpw := @left_pw gone (lIS o).length
  have hlm : ∀ i, i ∈ leftTo gone (lIS o).length → i < (lIS o).length ∧ gone.getD i false = false := fun i hi => left_mem.1 hi
  generalize leftTo gone (lIS o).length = L at *
  obtain ⟨z, hz, hzk⟩ := List.mem_iff_getElem.1 hkm
  rw [show eHy n o = .agg [.int .i64 n, eIS o] from rfl]
  have hb0 : H.cells (h ++ [some (.cells [.int .i64 n, eIS o])]) h.length = some [.int .i64 n, eIS o] := by rw [cells_h0]; rfl
  (try (simp (disch := first | omega | (simp <;> omega) | fail) only [push_cast, ↓reduceIte, Nat.reduceEqDiff, Nat.reduceAdd, Nat.reduceMul, Nat.reduceSub, Nat.reduceLT, Int.reduceToNat]))
  refine T_for z (fun i e h' => Pins e [(2, .int .i64 p), (3, .adr h.length 0), (9, eI a), (10, .int .i64 L.length), (11, .int .i64 i)] ∧ h' = h ++ [some (.cells [.int .i64 n, eIS o])]) ?_ ?_
  · (try (simp (disch := first | omega | (simp <;> omega) | fail) only [push_cast, ↓reduceIte, Nat.reduceEqDiff, Nat.reduceAdd, Nat.reduceMul, Nat.reduceSub, Nat.reduceLT, Int.reduceToNat, hal]))
    done
  rintro i e h' hi ⟨hp, rfl⟩
  refine T_pins hp fun e => ?_
  have hi2 : i < L.length := by omega
  have e0 : ((i : Int) < (L.length : Int)) = True := eq_true (by omega)
  obtain ⟨q, hq⟩ : ∃ q, q = L.getD i 0 := ⟨_, rfl⟩
  have hqm : q ∈ L := by rw [hq]; simp [hi2]
  have hql := (hlm q hqm).1
  have hia0 : (lI a).getD i 0 = (q : Int) := by rw [ha, nI_getD hi2, hq]
  have hial : i < (lI a).length := by omega
  obtain ⟨E1, hE1⟩ : ∃ E1, E1 = (lIS o).getD q [] := ⟨_, rfl⟩
  have hgE : ((lIS o).map fun e => eI (some e))[q]? = some (eI (some E1)) := by rw [hE1]; simp [hql]
  (try (simp (disch := first | omega | (simp <;> omega) | fail) only [push_cast, ↓reduceIte, Nat.reduceEqDiff, Nat.reduceAdd, Nat.reduceMul, Nat.reduceSub, Nat.reduceLT, Int.reduceToNat, e0, hia0, hb0, hgE]))
  refine (c_spec_l1Has (some E1) p).call ?_
  by_cases hiz : i = z
  · have hqk : q = k := by
      rw [hq, hiz, ← hzk]
      simp [hz]
    have hm : decide (p ∈ lI (some E1)) = true := decide_eq_true (by show p ∈ E1; rw [hE1, hqk]; exact s3)
    rw [hm, ← hqk]
    (try (simp (disch := first | omega | (simp <;> omega) | fail) only [push_cast, ↓reduceIte, Nat.reduceEqDiff, Nat.reduceAdd, Nat.reduceMul, Nat.reduceSub, Nat.reduceLT, Int.reduceToNat]))
    done
  · have hqk : q < k := by
      have := List.pairwise_iff_getElem.1 hpw i z hi2 hz (by omega)
      rw [hzk] at this
      rw [hq]
      simpa [hi2] using this
    have hm : decide (p ∈ lI (some E1)) = false := decide_eq_false (by
      show p ∉ E1
      rw [hE1]
      rcases s4 q hqk with h5 | h5
      · rw [(hlm q hqm).2] at h5
        cases h5
      · exact h5)
    rw [hm]
    (try (simp (disch := first | omega | (simp <;> omega) | fail) only [push_cast, ↓reduceIte, Nat.reduceEqDiff, Nat.reduceAdd, Nat.reduceMul, Nat.reduceSub, Nat.reduceLT, Int.reduceToNat]))
    done

theorem c_spec_l1Drop (a : Option (List Int)) (n : Int) (hl : (lI a).length ≤ 1000) : Fn Tryz.prog 106 [eI a, .int .i64 n] (fun x => ∃ b : Option (List Int), x = eI b ∧ lI b = (lI a).filter fun x => decide (x ≠ n)) := by
  refine Fn.froze_ fun h => ?_
  refine enter (by kernel_rfl) e106 (by kernel_rfl) rfl fun hok => ?_
  simp only [r106, initEnv_2]
  (try (simp (disch := first | omega | (simp <;> omega) | fail) only [push_cast, ↓reduceIte, Nat.reduceEqDiff, Nat.reduceAdd, Nat.reduceMul, Nat.reduceSub, Nat.reduceLT, Int.reduceToNat]))
  refine T_for (lI a).length (fun k e h' => ∃ v, Pins e [(1, .int .i64 n), (5, v), (8, eI a), (9, .int .i64 (lI a).length), (10, .int .i64 k)] ∧ GsI (AV.int .i64) h.length h' v (((lI a).take k).filter fun x => decide (x ≠ n))) ?_ ?_
  · refine ⟨.nils, ?_⟩
    (try (simp (disch := first | omega | (simp <;> omega) | fail) only [push_cast, ↓reduceIte, Nat.reduceEqDiff, Nat.reduceAdd, Nat.reduceMul, Nat.reduceSub, Nat.reduceLT, Int.reduceToNat]))
    all_goals (try exact GsI.nil (by simp))
    done
  rintro k e h' hk ⟨v, hp, hs⟩
  refine T_pins hp fun e => ?_
  (try (simp (disch := first | omega | (simp <;> omega) | fail) only [push_cast, ↓reduceIte, Nat.reduceEqDiff, Nat.reduceAdd, Nat.reduceMul, Nat.reduceSub, Nat.reduceLT, Int.reduceToNat]))
  first | refine goC_split (fun hc => ?_) (fun hc => ?_) | refine cnd_split (fun hc => ?_) (fun hc => ?_)
  · (try (simp only [decide_eq_true_eq, decide_eq_false_iff_not, Bool.not_eq_true', Bool.not_eq_false', Bool.and_eq_true, Bool.or_eq_true, Int.not_lt, Int.not_le] at hc)); (try (simp (disch := first | omega | (simp <;> omega) | fail) only [push_cast, ↓reduceIte, Nat.reduceEqDiff, Nat.reduceAdd, Nat.reduceMul, Nat.reduceSub, Nat.reduceLT, Int.reduceToNat]))
    have hk2 : k < (lI a).length := by omega
    obtain ⟨x, hx⟩ : ∃ x, x = (lI a).getD k 0 := ⟨_, rfl⟩
    have htk : (lI a).take (k + 1) = (lI a).take k ++ [x] := by
      rw [List.take_add_one, hx]
      simp [hk2]
    have hfl : (((lI a).take k).filter fun x => decide (x ≠ n)).length ≤ 1000 := Nat.le_trans (List.length_filter_le _ _) (by rw [List.length_take]; omega)
    by_cases hxn : x = n
    · have e1 : ((lI a).take (k + 1)).filter (fun x => decide (x ≠ n)) = ((lI a).take k).filter fun x => decide (x ≠ n) := by
        rw [htk, List.filter_append]
        simp [hxn]
      rw [← e1] at hs
      (try (simp (disch := first | omega | (simp <;> omega) | fail) only [push_cast, ↓reduceIte, Nat.reduceEqDiff, Nat.reduceAdd, Nat.reduceMul, Nat.reduceSub, Nat.reduceLT, Int.reduceToNat, ← hx, hxn]))
      all_goals (try exact ⟨_, rfl, hs⟩)
      all_goals (try exact hs)
      done
    · have e1 : ((lI a).take (k + 1)).filter (fun x => decide (x ≠ n)) = (((lI a).take k).filter fun x => decide (x ≠ n)) ++ [x] := by
        rw [htk, List.filter_append]
        simp [hxn]
      (try (simp (disch := first | omega | (simp <;> omega) | fail) only [push_cast, ↓reduceIte, Nat.reduceEqDiff, Nat.reduceAdd, Nat.reduceMul, Nat.reduceSub, Nat.reduceLT, Int.reduceToNat, ← hx, hxn]))
      refine hs.app (by_ := 8) (fun c hc => by first | exact Or.inr (by omega) | exact ⟨Or.inr (by omega), by omega⟩) (by omega) (by decide) fun v' h'' q1 q2 q3 => ?_
      rw [← e1] at q1
      (try (simp (disch := first | omega | (simp <;> omega) | fail) only [push_cast, ↓reduceIte, Nat.reduceEqDiff, Nat.reduceAdd, Nat.reduceMul, Nat.reduceSub, Nat.reduceLT, Int.reduceToNat]))
      all_goals (try exact ⟨_, rfl, q1⟩)
      all_goals (try exact q1)
      done
  · (try (simp only [decide_eq_true_eq, decide_eq_false_iff_not, Bool.not_eq_true', Bool.not_eq_false', Bool.and_eq_true, Bool.or_eq_true, Int.not_lt, Int.not_le] at hc)); (try (simp (disch := first | omega | (simp <;> omega) | fail) only [push_cast, ↓reduceIte, Nat.reduceEqDiff, Nat.reduceAdd, Nat.reduceMul, Nat.reduceSub, Nat.reduceLT, Int.reduceToNat]))
    have hke : k = (lI a).length := by omega
    subst hke
    rw [List.take_length] at hs
    obtain ⟨b, w, l⟩ := hs.vwI (n := h.length) (Nat.le_refl _)
    have hfin : ∃ t, Vw h' h.length v t ∧ ∃ b : Option (List Int), t = eI b ∧ lI b = (lI a).filter fun x => decide (x ≠ n) := ⟨_, w, b, rfl, l⟩
    (try (simp (disch := first | omega | (simp <;> omega) | fail) only [push_cast, ↓reduceIte, Nat.reduceEqDiff, Nat.reduceAdd, Nat.reduceMul, Nat.reduceSub, Nat.reduceLT, Int.reduceToNat]))
    all_goals (try exact hfin)
    done

theorem bl_nil : ∀ a : Str, Op.bytesLess a [] = false
  | [] => rfl
  | _ :: _ => rfl
theorem bl_cons {x y : UInt8} {a b : Str} : Op.bytesLess (x :: a) (y :: b) = (decide (x < y) || (x == y && Op.bytesLess a b)) := rfl
theorem bl_irr : ∀ a : Str, Op.bytesLess a a = false
  | [] => rfl
  | x :: a => by
    rw [bl_cons, bl_irr a]
    simp
theorem bl_tri : ∀ a b : Str, Op.bytesLess a b = true ∨ a = b ∨ Op.bytesLess b a = true
  | [], [] => .inr (.inl rfl)
  | [], _ :: _ => .inl rfl
  | _ :: _, [] => .inr (.inr rfl)
  | x :: a, y :: b => by
    rw [bl_cons, bl_cons]
    have h3 : x < y ∨ x = y ∨ y < x := by
      rcases Nat.lt_trichotomy x.toNat y.toNat with h | h | h
      · exact .inl (UInt8.lt_iff_toNat_lt.2 h)
      · exact .inr (.inl (UInt8.toNat_inj.1 h))
      · exact .inr (.inr (UInt8.lt_iff_toNat_lt.2 h))
    rcases h3 with h | h | h
    · left; simp [h]
    · subst h
      rcases bl_tri a b with h1 | h1 | h1
      · left; simp [h1]
      · right; left; rw [h1]
      · right; right; simp [h1]
    · right; right; simp [h]
theorem bl_trans : ∀ {a b c : Str}, Op.bytesLess a b = true → Op.bytesLess b c = true → Op.bytesLess a c = true
  | a, b, [], h1, h2 => by rw [bl_nil] at h2; cases h2
  | a, [], z :: c, h1, h2 => by rw [bl_nil] at h1; cases h1
  | [], _ :: _, _ :: _, h1, h2 => rfl
  | x :: a, y :: b, z :: c, h1, h2 => by
    rw [bl_cons] at h1 h2 ⊢
    simp only [Bool.or_eq_true, decide_eq_true_eq, Bool.and_eq_true, beq_iff_eq] at h1 h2 ⊢
    rcases h1 with h1 | ⟨rfl, h1⟩
    · rcases h2 with h2 | ⟨rfl, h2⟩
      · exact .inl (UInt8.lt_trans h1 h2)
      · exact .inl h1
    · rcases h2 with h2 | ⟨rfl, h2⟩
      · exact .inl h2
      · exact .inr ⟨rfl, bl_trans h1 h2⟩
theorem bl_asym {a b : Str} (h1 : Op.bytesLess a b = true) (h2 : Op.bytesLess b a = true) : False := by
  have := bl_trans h1 h2
  rw [bl_irr] at this
  cases this
theorem bl_app : ∀ {a b x y : Str}, a.length = b.length → Op.bytesLess (a ++ x) (b ++ y) = (Op.bytesLess a b || (decide (a = b) && Op.bytesLess x y))
  | [], [], x, y, _ => by simp [bl_irr]
  | [], _ :: _, _, _, h => by simp at h
  | _ :: _, [], _, _, h => by simp at h
  | u :: a, v :: b, x, y, h => by
    rw [List.cons_append, List.cons_append, bl_cons, bl_cons, bl_app (by simpa using h)]
    by_cases h1 : u = v
    · subst h1
      by_cases h2 : a = b
      · simp [h2]
      · simp [h2]
    · have h3 : (u == v) = false := by simp [h1]
      simp [h1, h3]
theorem bl_take {a b : Str} {n : Nat} (h : Op.bytesLess a b = true) (ha : n ≤ a.length) (hb : n ≤ b.length) : a.take n = b.take n ∨ Op.bytesLess (a.take n) (b.take n) = true := by
  rw [← List.take_append_drop n a, ← List.take_append_drop n b, bl_app (by simp; omega)] at h
  simp only [Bool.or_eq_true, Bool.and_eq_true, decide_eq_true_eq] at h
  rcases h with h | h
  · exact .inr h
  · exact .inl h.1
/-- Two lists in strict order with the same members are one. -/
theorem pw_uniq {α : Type} {r : α → α → Prop} (hr : ∀ a b, r a b → r b a → False) : ∀ {l1 l2 : List α}, l1.Pairwise r → l2.Pairwise r → (∀ x, x ∈ l1 ↔ x ∈ l2) → l1 = l2
  | [], l2, _, _, h => by
    cases l2 with
    | nil => rfl
    | cons b l2 => exact absurd ((h b).2 (by simp)) (by simp)
  | a :: l1, [], _, _, h => absurd ((h a).1 (by simp)) (by simp)
  | a :: l1, b :: l2, h1, h2, h => by
    rw [List.pairwise_cons] at h1 h2
    have hab : a = b := by
      rcases List.mem_cons.1 ((h a).1 (by simp)) with h5 | h5
      · exact h5
      · rcases List.mem_cons.1 ((h b).2 (by simp)) with h7 | h7
        · exact h7.symm
        · exact (hr _ _ (h1.1 b h7) (h2.1 a h5)).elim
    subst hab
    congr 1
    refine pw_uniq hr h1.2 h2.2 fun x => ⟨fun hx => ?_, fun hx => ?_⟩
    · rcases List.mem_cons.1 ((h x).1 (List.mem_cons_of_mem _ hx)) with h5 | h5
      · subst h5
        exact (hr _ _ (h1.1 x hx) (h1.1 x hx)).elim
      · exact h5
    · rcases List.mem_cons.1 ((h x).2 (List.mem_cons_of_mem _ hx)) with h5 | h5
      · subst h5
        exact (hr _ _ (h2.1 x hx) (h2.1 x hx)).elim
      · exact h5
def slt (a b : Str) : Prop := Op.bytesLess a b = true
def nlt (a b : Str) : Prop := a.length < b.length ∨ (a.length = b.length ∧ Op.bytesLess a b = true)
theorem nlt_asym : ∀ a b, nlt a b → nlt b a → False := fun a b h1 h2 => by
  unfold nlt at h1 h2
  rcases h1 with h1 | ⟨h1, h3⟩ <;> rcases h2 with h2 | ⟨h2, h4⟩
  · omega
  · omega
  · omega
  · exact bl_asym h3 h4
theorem nlt_irr : ∀ a, ¬ nlt a a := fun a h => nlt_asym a a h h
def okByte (c : UInt8) : Bool := decide (33 ≤ (c.toNat : Int)) && decide ((c.toNat : Int) ≤ 125)
def okKey (s : Str) : Bool := s.all okByte && (decide (1 ≤ (s.length : Int)) && decide ((s.length : Int) ≤ 12))
/-- Sorted, each a key. -/
def okKeysFrom (l : List Str) : Nat → Bool
  | 0 => true
  | i + 1 => okKeysFrom l i && (okKey (l.getD i []) && (decide (i = 0) || Op.bytesLess (l.getD (i - 1) []) (l.getD i [])))
def okKeys (l : List Str) : Bool := okKeysFrom l l.length && decide ((l.length : Int) ≤ 40)
theorem okKeysFrom_false {l : List Str} {i : Nat} : ∀ {j}, i ≤ j → okKeysFrom l i = false → okKeysFrom l j = false
  | 0, h, hf => by
    rw [show i = 0 by omega] at hf
    exact hf
  | j + 1, h, hf => by
    by_cases hi : i = j + 1
    · rw [← hi]
      exact hf
    · simp [okKeysFrom, okKeysFrom_false (show i ≤ j by omega) hf]

/-- Right keys. -/
theorem okKeysFrom_all {l : List Str} : ∀ {i : Nat}, okKeysFrom l i = true → i ≤ l.length → (∀ j, j < i → okKey (l.getD j []) = true) ∧ (l.take i).Pairwise slt
  | 0, _, _ => ⟨fun j hj => by omega, by simp⟩
  | i + 1, h, hi => by
    simp only [okKeysFrom, Bool.and_eq_true, Bool.or_eq_true, decide_eq_true_eq] at h
    obtain ⟨h1, h2, h3⟩ := h
    obtain ⟨g1, g2⟩ := okKeysFrom_all h1 (by omega)
    refine ⟨fun j hj => ?_, ?_⟩
    · rcases Nat.lt_or_ge j i with h5 | h5
      · exact g1 j h5
      · rw [show j = i by omega]
        exact h2
    · rw [List.take_add_one, List.getElem?_eq_getElem (by omega), Option.toList_some, List.pairwise_append]
      refine ⟨g2, by simp, fun a ha b hb => ?_⟩
      simp only [List.mem_singleton] at hb
      subst hb
      have hgi : l.getD i [] = l[i] := by simp [show i < l.length by omega]
      rw [hgi] at h3
      rcases h3 with h3 | h3
      · subst h3
        simp at ha
      · have hm : (l.take i).getLastD [] = l.getD (i - 1) [] := by
          rw [List.getLastD_eq_getLast?, List.getLast?_eq_getElem?]
          simp only [List.length_take, List.getElem?_take]
          rw [List.getD_eq_getElem?_getD]
          rw [show min i l.length = i by omega]
          by_cases h0 : i = 0
          · subst h0
            simp at ha
          · rw [if_pos (by omega)]
        by_cases hl : a = l.getD (i - 1) []
        · rw [hl]
          exact h3
        · refine bl_trans (b := l.getD (i - 1) []) ?_ h3
          obtain ⟨j, hj, rfl⟩ := List.mem_iff_getElem.1 ha
          have hj2 := hj
          rw [List.length_take] at hj2
          have hji : j ≠ i - 1 := fun h5 => hl (by subst h5; simp [show i - 1 < l.length by omega])
          have := List.pairwise_iff_getElem.1 g2 j (i - 1) hj (by rw [List.length_take]; omega) (by omega)
          unfold slt at this
          simpa [show i - 1 < l.length by omega] using this
theorem okKeys_all {l : List Str} (h : okKeys l = true) : (∀ s ∈ l, okKey s = true) ∧ l.Pairwise slt ∧ l.length ≤ 40 := by
  simp only [okKeys, Bool.and_eq_true, decide_eq_true_eq] at h
  obtain ⟨g1, g2⟩ := okKeysFrom_all h.1 (Nat.le_refl _)
  rw [List.take_length] at g2
  refine ⟨fun s hs => ?_, g2, by omega⟩
  obtain ⟨j, hj, rfl⟩ := List.mem_iff_getElem.1 hs
  have := g1 j hj
  simpa [hj] using this
/-- The nodes, level by level. -/
def ndS (n : Nat) (out : List Str) (s : Str) : List Str := if n ≤ s.length ∧ s.take n ≠ out.getLastD [] then out ++ [s.take n] else out
def nodesTo (K : List Str) : Nat → List Str
  | 0 => [[]]
  | n + 1 => K.foldl (ndS (n + 1)) (nodesTo K n)
def nodesK (K : List Str) : List Str := nodesTo K 12
theorem foldl_take {α β : Type} {f : β → α → β} {b : β} {l : List α} {i : Nat} {d : α} (hi : i < l.length) : (l.take (i + 1)).foldl f b = f ((l.take i).foldl f b) (l.getD i d) := by
  rw [List.take_add_one, List.foldl_append, List.getElem?_eq_getElem hi]
  simp [hi]
structure NdI (K : List Str) (n k : Nat) (out : List Str) : Prop where
  pw : out.Pairwise nlt
  mem : ∀ x, x ∈ out ↔ (x = [] ∨ (x.length ≤ n ∧ ∃ s ∈ K, x = s.take x.length)) ∨ ∃ s ∈ K.take k, n + 1 ≤ s.length ∧ x = s.take (n + 1)
theorem NdI.step {K : List Str} (hK : K.Pairwise slt) {n k : Nat} {out : List Str} (h : NdI K n k out) (hk : k < K.length) : NdI K n (k + 1) (ndS (n + 1) out (K.getD k [])) := by
  have hg : K.getD k [] = K[k] := by simp [hk]
  have htk : K.take (k + 1) = K.take k ++ [K[k]] := by
    rw [List.take_add_one, List.getElem?_eq_getElem hk, Option.toList_some]
  have hle : ∀ x ∈ out, x.length ≤ n + 1 := fun x hx => by
    rcases (h.mem x).1 hx with (h1 | h1) | ⟨s, _, h1, h2⟩
    · rw [h1]; simp
    · omega
    · rw [h2, List.length_take]; omega
  rw [hg]
  unfold ndS
  by_cases h1 : n + 1 ≤ K[k].length
  · have hlt : ∀ y ∈ out, y.length = n + 1 → y = K[k].take (n + 1) ∨ Op.bytesLess y (K[k].take (n + 1)) = true := fun y hy hyl => by
      rcases (h.mem y).1 hy with (h3 | h3) | ⟨s, hs, h3, h4⟩
      · rw [h3] at hyl; simp at hyl
      · omega
      · obtain ⟨j, hj, rfl⟩ := List.mem_iff_getElem.1 hs
        rw [List.length_take] at hj
        rw [List.getElem_take] at h3 h4
        have := List.pairwise_iff_getElem.1 hK j k (by omega) hk (by omega)
        rw [h4]
        exact bl_take this h3 h1
    by_cases h2 : K[k].take (n + 1) = out.getLastD []
    · rw [if_neg (fun h5 => h5.2 h2)]
      have hin : K[k].take (n + 1) ∈ out := by
        rw [h2, List.getLastD_eq_getLast?]
        cases hl : out.getLast? with
        | none =>
          rw [List.getLast?_eq_none_iff] at hl
          subst hl
          have := congrArg List.length h2
          rw [List.length_take] at this
          have e : (([] : List Str).getLastD []).length = 0 := rfl
          omega
        | some y =>
          simp only [Option.getD_some]
          exact List.mem_of_getLast? hl
      refine ⟨h.pw, fun x => (h.mem x).trans ⟨fun hx => hx.imp id fun ⟨s, hs, h5⟩ => ⟨s, by rw [htk]; exact List.mem_append.2 (.inl hs), h5⟩, fun hx => ?_⟩⟩
      rcases hx with hx | ⟨s, hs, h5, h6⟩
      · exact .inl hx
      · rw [htk] at hs
        rcases List.mem_append.1 hs with hs | hs
        · exact .inr ⟨s, hs, h5, h6⟩
        · simp only [List.mem_singleton] at hs
          subst hs
          rw [h6]
          exact (h.mem _).1 hin
    · rw [if_pos ⟨h1, h2⟩]
      have hxl : (K[k].take (n + 1)).length = n + 1 := by rw [List.length_take]; omega
      have hnew : ∀ y ∈ out, nlt y (K[k].take (n + 1)) := fun y hy => by
        have hyl := hle y hy
        rcases Nat.lt_or_ge y.length (n + 1) with h5 | h5
        · left; omega
        · rcases hlt y hy (by omega) with h7 | h7
          · exfalso
            -- the last one is as great
            obtain ⟨z, hz⟩ : ∃ z, out.getLast? = some z := by
              cases hl : out.getLast? with
              | none =>
                rw [List.getLast?_eq_none_iff] at hl
                rw [hl] at hy
                cases hy
              | some z => exact ⟨z, rfl⟩
            have hzl : out.getLastD [] = z := by rw [List.getLastD_eq_getLast?, hz]; rfl
            have hzm := List.mem_of_getLast? hz
            rw [hzl] at h2
            obtain ⟨l0, rfl⟩ := List.getLast?_eq_some_iff.1 hz
            have hyz : nlt y z := by
              rcases List.mem_append.1 hy with h8 | h8
              · exact (List.pairwise_append.1 h.pw).2.2 y h8 z (by simp)
              · simp only [List.mem_singleton] at h8
                rw [h8] at h7
                exact absurd h7.symm h2
            have hzl2 := hle z hzm
            rcases hyz with h8 | ⟨h8, h9⟩
            · omega
            · rcases hlt z hzm (by omega) with h10 | h10
              · exact h2 h10.symm
              · rw [h7] at h9
                exact bl_asym h9 h10
          · exact .inr ⟨by omega, h7⟩
      refine ⟨List.pairwise_append.2 ⟨h.pw, by simp, fun a ha b hb => ?_⟩, fun x => ?_⟩
      · simp only [List.mem_singleton] at hb
        subst hb
        exact hnew a ha
      · rw [List.mem_append, List.mem_singleton, h.mem x, htk]
        constructor
        · rintro (hx | hx)
          · exact hx.imp id fun ⟨s, hs, h5⟩ => ⟨s, List.mem_append.2 (.inl hs), h5⟩
          · exact .inr ⟨K[k], List.mem_append.2 (.inr (by simp)), h1, hx⟩
        · rintro (hx | ⟨s, hs, h5, h6⟩)
          · exact .inl (.inl hx)
          · rcases List.mem_append.1 hs with hs | hs
            · exact .inl (.inr ⟨s, hs, h5, h6⟩)
            · simp only [List.mem_singleton] at hs
              subst hs
              exact .inr h6
  · rw [if_neg (fun h5 => h1 h5.1)]
    refine ⟨h.pw, fun x => (h.mem x).trans ⟨fun hx => hx.imp id fun ⟨s, hs, h5⟩ => ⟨s, by rw [htk]; exact List.mem_append.2 (.inl hs), h5⟩, fun hx => hx.imp id fun ⟨s, hs, h5, h6⟩ => ?_⟩⟩
    rw [htk] at hs
    rcases List.mem_append.1 hs with hs | hs
    · exact ⟨s, hs, h5, h6⟩
    · simp only [List.mem_singleton] at hs
      subst hs
      exact absurd h5 h1
theorem NdI.run {K : List Str} (hK : K.Pairwise slt) {n : Nat} {out : List Str} (h : NdI K n 0 out) : ∀ k, k ≤ K.length → NdI K n k ((K.take k).foldl (ndS (n + 1)) out)
  | 0, _ => by simpa using h
  | k + 1, hk => by
    rw [foldl_take (d := []) (by omega)]
    exact (NdI.run hK h k (by omega)).step hK (by omega)
theorem wordsN_succ {B m : Nat} : wordsN B (m + 1) = (wordN B 0 : Int) :: wordsN (B >>> 16) m := by
  unfold wordsN
  rw [List.range_succ_eq_map, List.map_cons, List.map_map]
  congr 1
  refine List.map_congr_left fun k _ => ?_
  simp only [Function.comp]
  unfold wordN
  rw [← Nat.shiftRight_add]
  congr 3
  omega
theorem numW_wordsN : ∀ {m B : Nat}, B < 2 ^ (16 * m) → numW (wordsN B m) = B
  | 0, B, h => by
    have : B = 0 := by simpa using h
    subst this
    rfl
  | m + 1, B, h => by
    have h16 : (2 : Nat) ^ 16 = 65536 := rfl
    have hlt : B >>> 16 < 2 ^ (16 * m) := by
      rw [Nat.shiftRight_eq_div_pow, Nat.div_lt_iff_lt_mul (Nat.two_pow_pos _), ← Nat.pow_add]
      rwa [show 16 * m + 16 = 16 * (m + 1) by omega]
    rw [wordsN_succ, numW, numW_wordsN hlt]
    have hw : (wordN B 0 : Int).toNat = B % 65536 := by
      rw [Int.toNat_natCast]
      rfl
    rw [hw, Nat.shiftRight_eq_div_pow, h16]
    omega
/-- A number whose bits are told. -/
def mkN (n : Nat) (g : Nat → Bool) : Nat := (List.range n).foldl (fun B i => setB B i (g i)) 0
theorem mkN_succ {n : Nat} {g : Nat → Bool} : mkN (n + 1) g = setB (mkN n g) n (g n) := by
  unfold mkN
  rw [List.range_succ, List.foldl_append]
  rfl
theorem mkN_bit {g : Nat → Bool} {j : Nat} : ∀ {n : Nat}, (mkN n g).testBit j = (decide (j < n) && g j)
  | 0 => by simp [mkN]
  | n + 1 => by
    rw [mkN_succ, setB_bit]
    by_cases h : j = n
    · subst h
      simp
    · rw [if_neg h, mkN_bit]
      congr 1
      rw [decide_eq_decide]
      omega

/-- The number of a list of bits, so far. -/
def bitN (l : List Bool) (n : Nat) : Nat := mkN n fun i => l.getD i false
theorem bitN_on {l : List Bool} {i : Nat} (h : l.getD i false = true) : bitN l (i + 1) = bitN l i ||| 2 ^ i := by
  unfold bitN
  rw [mkN_succ, h]
  refine Nat.eq_of_testBit_eq fun j => ?_
  rw [setB_bit, Nat.testBit_or, Nat.testBit_two_pow]
  by_cases hj : j = i
  · simp [hj]
  · simp [hj, Ne.symm hj]
theorem bitN_off {l : List Bool} {i : Nat} (h : l.getD i false = false) : bitN l (i + 1) = bitN l i := by
  unfold bitN
  rw [mkN_succ, h]
  refine Nat.eq_of_testBit_eq fun j => ?_
  rw [setB_bit, mkN_bit]
  by_cases hj : j = i
  · simp [hj]
  · simp [hj]

/-- A child has one byte more. -/
def chB (s c : Str) : Bool := decide (c.length = s.length + 1) && decide (c.take s.length = s)
def ch (N : List Str) (s : Str) : List Str := N.filter (chB s)
theorem chB_iff {s c : Str} : chB s c = true ↔ c.length = s.length + 1 ∧ c.take s.length = s := by simp [chB]
theorem ch_mem {N : List Str} {s c : Str} : c ∈ ch N s ↔ c ∈ N ∧ chB s c = true := by simp [ch]
theorem chB_eq {s c : Str} (h : chB s c = true) : c = s ++ [c.getLastD 0] := by
  obtain ⟨h1, h2⟩ := chB_iff.1 h
  have hne : c ≠ [] := fun h5 => by rw [h5] at h1; simp at h1
  have h3 := List.dropLast_concat_getLast hne
  have h4 : c.dropLast = s := by
    rw [List.dropLast_eq_take, h1]
    simpa using h2
  rw [h4] at h3
  conv => lhs; rw [← h3]
  rw [List.getLastD_eq_getLast?, List.getLast?_eq_some_getLast hne]
  rfl
theorem chB_drop {x : Str} (h : x ≠ []) : chB x.dropLast x = true := by
  have := List.length_pos_iff.2 h
  rw [chB_iff, List.length_dropLast, List.dropLast_eq_take]
  exact ⟨by omega, rfl⟩
structure Tri (N : List Str) : Prop where
  pw : N.Pairwise nlt
  root : [] ∈ N
  up : ∀ x ∈ N, x ≠ [] → x.dropLast ∈ N
theorem Tri.head {N : List Str} (h : Tri N) : ∃ R, N = [] :: R ∧ R.Pairwise nlt ∧ ∀ x ∈ R, x ≠ [] := by
  obtain ⟨h1, h2, h3⟩ := h
  cases N with
  | nil => cases h2
  | cons a R =>
    rw [List.pairwise_cons] at h1
    have ha : a = [] := by
      rcases List.mem_cons.1 h2 with h5 | h5
      · exact h5.symm
      · rcases h1.1 _ h5 with h7 | ⟨h7, h8⟩
        · simp at h7
        · exact List.eq_nil_of_length_eq_zero (by simpa using h7)
    subst ha
    refine ⟨R, rfl, h1.2, fun x hx h5 => ?_⟩
    subst h5
    exact nlt_irr _ (h1.1 _ hx)
theorem ch_nlt {N : List Str} {a b x y : Str} (h : nlt a b) (hx : x ∈ ch N a) (hy : y ∈ ch N b) : nlt x y := by
  have hx := (ch_mem.1 hx).2
  have hy := (ch_mem.1 hy).2
  have h1 := (chB_iff.1 hx).1
  have h2 := (chB_iff.1 hy).1
  rcases h with h | ⟨h, h3⟩
  · left; omega
  · refine .inr ⟨by omega, ?_⟩
    rw [chB_eq hx, chB_eq hy, bl_app h, h3]
    rfl
theorem Tri.bfs {N : List Str} (h : Tri N) : N = [] :: N.flatMap (ch N) := by
  obtain ⟨R, h1, h2, h3⟩ := h.head
  have : R = N.flatMap (ch N) := by
    refine pw_uniq nlt_asym h2 ?_ fun x => ?_
    · rw [List.pairwise_flatMap]
      exact ⟨fun a _ => h.pw.filter _, h.pw.imp fun {a b} hab x hx y hy => ch_nlt hab hx hy⟩
    · rw [List.mem_flatMap]
      constructor
      · intro hx
        have hxN : x ∈ N := by rw [h1]; exact List.mem_cons_of_mem _ hx
        exact ⟨x.dropLast, h.up x hxN (h3 x hx), ch_mem.2 ⟨hxN, chB_drop (h3 x hx)⟩⟩
      · rintro ⟨s, hs, hx⟩
        obtain ⟨h5, h6⟩ := ch_mem.1 hx
        rw [h1] at h5
        rcases List.mem_cons.1 h5 with h7 | h7
        · have := (chB_iff.1 h6).1
          rw [h7] at this
          simp at this
        · exact h7
  rw [← this]
  exact h1
def shC (N : List Str) (s : Str) : List Bool := List.replicate (ch N s).length true ++ [false]
def shapeL (N : List Str) : List Bool := N.flatMap (shC N)
def labL (N : List Str) : Str := (N.drop 1).map (·.getLastD 0)
def endL (K N : List Str) : List Bool := N.map fun s => decide (s ∈ K)
theorem shape_len {N : List Str} : ∀ L : List Str, (L.flatMap (shC N)).length = (L.flatMap (ch N)).length + L.length
  | [] => rfl
  | s :: L => by
    rw [List.flatMap_cons, List.flatMap_cons, List.length_append, List.length_append, shape_len L]
    simp [shC]
    omega
theorem Tri.shape {N : List Str} (h : Tri N) : (shapeL N).length + 1 = 2 * N.length := by
  have h1 := congrArg List.length h.bfs
  rw [List.length_cons] at h1
  unfold shapeL
  rw [shape_len]
  omega
def sameB (a b : Bt) : Bool := decide (a.size = b.size) && decide (lI a.words = lI b.words)

def atB (b : Bt) (i : Nat) : Bool := (numW (lI b.words)).testBit i
def btL (b : Bt) : List Bool := (List.range b.size.toNat).map (atB b)
def mdB (l : List Bool) : Bt := ⟨(l.length : Int), some (wordsN (bitN l l.length) ((l.length + 15) / 16))⟩
theorem bitN_lt {l : List Bool} {n : Nat} : bitN l n < 2 ^ n := by
  refine Nat.lt_pow_two_of_testBit _ fun i hi => ?_
  unfold bitN
  rw [mkN_bit]
  simp
  omega
theorem mdB_at {l : List Bool} {i : Nat} (hi : i < l.length) : atB (mdB l) i = l.getD i false := by
  unfold atB mdB
  show (numW (wordsN _ _)).testBit i = _
  rw [numW_wordsN (Nat.lt_of_lt_of_le bitN_lt (Nat.pow_le_pow_right (by decide) (by omega)))]
  unfold bitN
  rw [mkN_bit, decide_eq_true hi]
  simp
theorem btL_md {l : List Bool} : btL (mdB l) = l := by
  unfold btL
  refine List.ext_getElem (by simp [mdB]) fun i h1 h2 => ?_
  rw [List.getElem_map, List.getElem_range, mdB_at h2]
  simp [h2]
theorem sameB_iff {a b : Bt} : sameB a b = true ↔ a.size = b.size ∧ lI a.words = lI b.words := by simp [sameB]
theorem sameB_at {a b : Bt} (h : sameB a b = true) {i : Nat} : atB b i = atB a i := by
  obtain ⟨_, h2⟩ := sameB_iff.1 h
  unfold atB
  rw [h2]
theorem sameB_btL {a b : Bt} (h : sameB a b = true) : btL b = btL a := by
  obtain ⟨h1, h2⟩ := sameB_iff.1 h
  unfold btL atB
  rw [h1, h2]
structure Tr where
  sh : Bt
  en : Bt
  lab : Str
def tK (K : List Str) : Tr := ⟨mdB (shapeL (nodesK K)), mdB (endL K (nodesK K)), labL (nodesK K)⟩
def sameT (a b : Tr) : Bool := sameB a.sh b.sh && (sameB a.en b.en && decide (a.lab = b.lab))
theorem sameT_iff {a b : Tr} : sameT a b = true ↔ sameB a.sh b.sh = true ∧ sameB a.en b.en = true ∧ a.lab = b.lab := by simp [sameT]
def okT0 (t : Tr) : Bool := (okBt t.sh && okBt t.en) && (decide (t.sh.size = 2 * t.en.size - 1) && decide ((t.lab.length : Int) = t.en.size - 1))
/-- The nodes whose bit is on. -/
def endsTo (P : List Str) (g : Nat → Bool) (k : Nat) : List Str := ((List.range k).filter g).map fun i => P.getD i []
theorem endsTo_succ {P : List Str} {g : Nat → Bool} {k : Nat} : endsTo P g (k + 1) = if g k then endsTo P g k ++ [P.getD k []] else endsTo P g k := by
  unfold endsTo
  rw [List.range_succ, List.filter_append, List.map_append]
  cases h : g k <;> simp [h]
theorem endsTo_filter {P : List Str} {g : Nat → Bool} {p : Str → Bool} : ∀ k, k ≤ P.length → (∀ i, i < k → g i = p (P.getD i [])) → endsTo P g k = (P.take k).filter p
  | 0, _, _ => by simp [endsTo]
  | k + 1, hk, h => by
    have hgk : P.getD k [] = P[k] := by simp [show k < P.length by omega]
    rw [endsTo_succ, endsTo_filter k (by omega) fun i hi => h i (by omega), h k (by omega), List.take_add_one, List.getElem?_eq_getElem (by omega), List.filter_append, hgk]
    cases hp : p P[k] <;> simp [hp]
/-- Put into a sorted list. -/
def putS : List Str → Str → List Str
  | [], s => [s]
  | x :: l, s => if Op.bytesLess x s then x :: putS l s else if x = s then x :: l else s :: x :: l
theorem putS_mem {s x : Str} : ∀ {l : List Str}, x ∈ putS l s ↔ x ∈ l ∨ x = s
  | [] => by simp [putS]
  | y :: l => by
    unfold putS
    split
    · rw [List.mem_cons, putS_mem, List.mem_cons, or_assoc]
    · split
      · rename_i h
        subst h
        simp
        exact fun h => .inl h
      · simp only [List.mem_cons]
        constructor
        · rintro (h | h | h)
          · exact .inr h
          · exact .inl (.inl h)
          · exact .inl (.inr h)
        · rintro ((h | h) | h)
          · exact .inr (.inl h)
          · exact .inr (.inr h)
          · exact .inl h
theorem putS_pw {s : Str} : ∀ {l : List Str}, l.Pairwise slt → (putS l s).Pairwise slt
  | [], _ => by simp [putS]
  | y :: l, h => by
    have h0 := h
    rw [List.pairwise_cons] at h
    unfold putS
    split
    · rename_i h1
      refine List.pairwise_cons.2 ⟨fun x hx => ?_, putS_pw h.2⟩
      rcases putS_mem.1 hx with h5 | h5
      · exact h.1 x h5
      · rw [h5]; exact h1
    · rename_i h1
      split
      · exact h0
      · rename_i h2
        have hsy : slt s y := by
          rcases bl_tri y s with h5 | h5 | h5
          · exact absurd h5 h1
          · exact absurd h5 h2
          · exact h5
        refine List.pairwise_cons.2 ⟨fun x hx => ?_, h0⟩
        rcases List.mem_cons.1 hx with h5 | h5
        · rw [h5]; exact hsy
        · exact bl_trans hsy (h.1 x h5)
theorem putS_len {s : Str} : ∀ {l : List Str}, (putS l s).length ≤ l.length + 1
  | [] => by simp [putS]
  | y :: l => by
    unfold putS
    have := putS_len (s := s) (l := l)
    split
    · simp; omega
    · split <;> simp
/-- Where a string is put. -/
theorem putS_at {s : Str} : ∀ {l : List Str} {i : Nat}, i ≤ l.length → (∀ j, j < i → Op.bytesLess (l.getD j []) s = true) → (i < l.length → Op.bytesLess (l.getD i []) s = false) → putS l s = if i < l.length ∧ l.getD i [] = s then l else l.take i ++ [s] ++ l.drop i
  | [], i, hi, _, _ => by
    have : i = 0 := by simpa using hi
    subst this
    rfl
  | y :: l, 0, _, _, h => by
    have h1 := h (by simp)
    simp only [List.getD_cons_zero] at h1
    unfold putS
    rw [if_neg (by rw [h1]; simp)]
    simp
  | y :: l, i + 1, hi, h, h2 => by
    have h1 := h 0 (by omega)
    simp only [List.getD_cons_zero] at h1
    unfold putS
    rw [if_pos h1, putS_at (i := i) (by simpa using hi) (fun j hj => by simpa using h (j + 1) (by omega)) (fun hl => by simpa using h2 (by simpa using hl))]
    simp only [List.length_cons, List.getD_cons_succ, List.take_succ_cons, List.drop_succ_cons]
    by_cases h5 : i < l.length ∧ l.getD i [] = s
    · rw [if_pos h5, if_pos ⟨by omega, h5.2⟩]
    · rw [if_neg h5, if_neg (fun h7 => h5 ⟨by omega, h7.2⟩)]
      simp
structure TrI (t : Tr) (K : List Str) : Prop where
  ok0 : okT0 t = true
  keys : okKeys K = true
  same : sameT (tK K) t = true
theorem TrI.lab {t : Tr} {K : List Str} (h : TrI t K) : t.lab = labL (nodesK K) := (sameT_iff.1 h.same).2.2.symm
theorem TrI.shape {t : Tr} {K : List Str} (h : TrI t K) : btL t.sh = shapeL (nodesK K) := by
  rw [sameB_btL (sameT_iff.1 h.same).1]
  exact btL_md
theorem TrI.size {t : Tr} {K : List Str} (h : TrI t K) : t.en.size = ((nodesK K).length : Int) := by
  rw [← (sameB_iff.1 (sameT_iff.1 h.same).2.1).1]
  show ((endL K (nodesK K)).length : Int) = _
  simp [endL]
theorem TrI.at_ {t : Tr} {K : List Str} (h : TrI t K) {i : Nat} (hi : i < (nodesK K).length) : atB t.en i = decide ((nodesK K).getD i [] ∈ K) := by
  rw [sameB_at (sameT_iff.1 h.same).2.1]
  show atB (mdB (endL K (nodesK K))) i = _
  rw [mdB_at (by simpa [endL] using hi)]
  simp [endL, hi]
theorem TrI.ends {t : Tr} {K : List Str} (h : TrI t K) : endsTo (nodesK K) (atB t.en) (nodesK K).length = (nodesK K).filter fun s => decide (s ∈ K) := by
  rw [endsTo_filter (p := fun s => decide (s ∈ K)) _ (Nat.le_refl _) fun i hi => h.at_ hi, List.take_length]
def cTr (t : Tr) : List AV := [.int .i64 t.sh.size, eI t.sh.words, .int .i64 t.en.size, eI t.en.words, .str t.lab]
def eTr (t : Tr) : AV := .agg (cTr t)
theorem ldT0 {a b c d e : AV} : ld true 2 [a, b, c, d, e] 0 = some (.agg [a, b]) := rfl
theorem ldT2 {a b c d e : AV} : ld true 2 [a, b, c, d, e] 2 = some (.agg [c, d]) := rfl
theorem ldT {a b c d e : AV} : ld true 5 [a, b, c, d, e] 0 = some (.agg [a, b, c, d, e]) := rfl
attribute [push_cast] eTr cTr ldT0 ldT2 ldT
theorem vw_tupT {h : H} {n : Nat} {a b x y : AV} (h1 : Vw h n a b) (h2 : Vw h n x y) : Vw h n (.tup [a, x]) (.tup [b, y]) := by
  refine .tup rfl fun j y' t hy ht => ?_
  rcases j with _ | _ | j
  · simp at hy ht
    subst hy ht
    exact h1
  · simp at hy ht
    subst hy ht
    exact h2
  · simp at hy

theorem cntL_le {E : List (List Int)} {p : Int} (he : ∀ e ∈ E, e.length ≤ 1000) : ∀ L : List Nat, cntL E L p ≤ 1000 * L.length
  | [] => by simp [cntL]
  | i :: L => by
    have ih := cntL_le (p := p) he L
    have h1 : (E.getD i []).count p ≤ 1000 := by
      by_cases hi : i < E.length
      · exact Nat.le_trans List.count_le_length (he _ (getD_mem hi))
      · rw [List.getD_eq_getElem?_getD, List.getElem?_eq_none (by omega)]
        simp
    have e : cntL E (i :: L) p = (E.getD i []).count p + cntL E L p := by simp [cntL]
    rw [e, List.length_cons]
    omega
/-- What the steps are, as they are seen. -/
def StR (st : List (Nat × Nat)) (v : AV) : Prop := v = eSt st ∨ (v = .nils ∧ st = [])
theorem vw_steps {h : H} {n0 : Nat} {v : AV} {st : List (Nat × Nat)} {B : List Nat} (hS : S1 h 2 v st.length (st.flatMap cSt) B) (hB : ∀ k ∈ B, n0 ≤ k) : ∃ t, Vw h n0 v t ∧ StR st t := by
  rcases hS.2 with ⟨rfl, h0, _⟩ | ⟨b, rfl, rfl, hc⟩
  · exact ⟨.nils, .free free_nils, .inr ⟨rfl, List.eq_nil_of_length_eq_zero h0⟩⟩
  · have hat : ∀ x ∈ st.flatMap cSt, ∃ n : Int, x = .int .i64 n := fun x hx => by
      obtain ⟨s, _, hs⟩ := List.mem_flatMap.1 hx
      simp only [cSt, List.mem_cons, List.not_mem_nil, or_false] at hs
      rcases hs with rfl | rfl
      · exact ⟨_, rfl⟩
      · exact ⟨_, rfl⟩
    exact ⟨_, vw_all (hB b (by simp)) hc hS.1 (all_one_of fun x hx => by obtain ⟨n, rfl⟩ := hat x hx; rfl) (fun x hx => by obtain ⟨n, rfl⟩ := hat x hx; exact free_int), .inl rfl⟩

set_option maxHeartbeats 4000000 in
theorem c_spec_pePeel (n : Nat) (o : Option (List (List Int))) (hE : ∀ e ∈ lIS o, ∀ p ∈ e, 0 ≤ p ∧ p < (n : Int)) (hn : n ≤ 1000) (hl : (lIS o).length ≤ 1000) (he : ∀ e ∈ lIS o, e.length ≤ 1000) :
    Fn Tryz.prog 84 [eHy n o, .nils, .bool true] (fun x => ∃ (s : AV) (a : Option (List Int)), x = .tup [s, eI a] ∧ StR (peelV n (lIS o)).1 s ∧ lI a = nI (leftTo (peelV n (lIS o)).2 (lIS o).length)) := by
  refine Fn.froze_ fun h => ?_
  refine enter (by kernel_rfl) e84 (by kernel_rfl) rfl fun hok => ?_
  simp only [r84, initEnv_3]
  have hcb : ∀ gone i p, cntL (lIS o) ((leftTo gone (lIS o).length).take i) p ≤ 1000000 := fun gone i p => by
    have h1 := cntL_le (p := p) he ((leftTo gone (lIS o).length).take i)
    have h2 := @leftTo_len gone (lIS o).length
    have h3 : ((leftTo gone (lIS o).length).take i).length ≤ 1000 := by rw [List.length_take]; omega
    omega
  have hAll := c_spec_peAll n o hl
  have hFr := fun a gone ha => c_spec_peFree n o a gone ha hE hn hl he (hcb gone)
  have hWi := fun a gone p ha hpos => c_spec_peWith n o a gone p ha hl hpos
  have ehy : eHy n o = .agg [.int .i64 n, eIS o] := rfl
  rw [ehy] at hAll ⊢
  simp only [ehy] at hFr hWi
  have hb0 : H.cells (h ++ [some (.cells [.int .i64 n, eIS o])]) h.length = some [.int .i64 n, eIS o] := by rw [cells_h0]; rfl
  (try (simp (disch := first | omega | (simp <;> omega) | fail) only [push_cast, ↓reduceIte, Nat.reduceEqDiff, Nat.reduceAdd, Nat.reduceMul, Nat.reduceSub, Nat.reduceLT, Int.reduceToNat]))
  refine hAll.use fun x hx => ?_
  obtain ⟨a0, rfl, ha0⟩ := hx
  (try (simp (disch := first | omega | (simp <;> omega) | fail) only [push_cast, ↓reduceIte, Nat.reduceEqDiff, Nat.reduceAdd, Nat.reduceMul, Nat.reduceSub, Nat.reduceLT, Int.reduceToNat]))
  refine T_for (lIS o).length (fun i e g => ∃ v B st gone a, Pins e [(1, .nils), (2, .bool true), (3, .adr h.length 0), (8, v), (9, eI a), (10, .int .i64 i)] ∧ (g.cells h.length = some [.int .i64 n, eIS o] ∧ (S1 g 2 v st.length (st.flatMap cSt) B ∧ (∀ k ∈ B, h.length + 1 ≤ k)) ∧ lI a = nI (leftTo gone (lIS o).length) ∧ gone.length = (lIS o).length ∧ gone.count true = i ∧ st.length = i ∧ peelF n (lIS o) ((lIS o).length - i) gone st = peelV n (lIS o))) ?_ ?_
  · have hst : lI a0 = nI (leftTo (List.replicate (lIS o).length false) (lIS o).length) := by rw [ha0, left_all]
    refine ⟨.nils, [], [], List.replicate (lIS o).length false, a0, ?_⟩
    (try (simp (disch := first | omega | (simp <;> omega) | fail) only [push_cast, ↓reduceIte, Nat.reduceEqDiff, Nat.reduceAdd, Nat.reduceMul, Nat.reduceSub, Nat.reduceLT, Int.reduceToNat]))
    all_goals (try exact ⟨⟨S1.nil, by simp⟩, hst, by simp, by simp [List.count_replicate], rfl⟩)
    done
  rintro i e g hi ⟨v, B, st, gone, a, hp, hb, ⟨hS, hB⟩, ha, hgl, hgc, hsl, hpf⟩
  refine T_pins hp fun e => ?_
  have hlg := cells_lt hb
  have hon := hS.one_
  (try (simp (disch := first | omega | (simp <;> omega) | fail) only [push_cast, ↓reduceIte, Nat.reduceEqDiff, Nat.reduceAdd, Nat.reduceMul, Nat.reduceSub, Nat.reduceLT, Int.reduceToNat, hb]))
  refine (hFr a gone ha).use fun x hx => ?_
  obtain ⟨f, rfl, hf⟩ := hx
  have hfl : (lI f).length = (sing n (lIS o) gone).length := by rw [hf, nI_len]
  cases hsg : sing n (lIS o) gone with
  | nil =>
    rw [hsg] at hfl
    simp only [List.length_nil] at hfl
    have e0 : (((lI f).length : Int) = 0) = True := eq_true (by omega)
    have hres := peelF_end (st := st) hsg ((lIS o).length - i)
    rw [hpf] at hres
    obtain ⟨ts, w1, w2⟩ := vw_steps (n0 := h.length) hS fun k hk => by have := hB k hk; omega
    have hfin : ∃ t, Vw g h.length (.tup [v, eI a]) t ∧ ∃ (s : AV) (a : Option (List Int)), t = .tup [s, eI a] ∧ StR (peelV n (lIS o)).1 s ∧ lI a = nI (leftTo (peelV n (lIS o)).2 (lIS o).length) := ⟨_, vw_tupT w1 (.free free_eI), ts, a, rfl, by rw [hres]; exact w2, by rw [hres]; exact ha⟩
    (try (simp (disch := first | omega | (simp <;> omega) | fail) only [push_cast, ↓reduceIte, Nat.reduceEqDiff, Nat.reduceAdd, Nat.reduceMul, Nat.reduceSub, Nat.reduceLT, Int.reduceToNat, e0]))
    all_goals (try exact hfin)
    done
  | cons q qs =>
    rw [hsg] at hfl
    have hfl2 : 0 < (lI f).length := by rw [hfl]; simp
    have e0 : (((lI f).length : Int) = 0) = False := eq_false (by omega)
    have e9 : ((i : Int) < 0) = False := eq_false (by omega)
    have hqm := sing_mem (n := n) (E := lIS o) (gone := gone) (p := q) (by rw [hsg]; simp)
    have hpos : 0 < cnt (lIS o) gone (lIS o).length (q : Int) := by omega
    obtain ⟨s1, s2, s3, s4⟩ := edgeOf_spec hpos
    have hW := hWi a gone (q : Int) ha hpos
    obtain ⟨k, hk⟩ : ∃ k, k = edgeOf (lIS o) gone (q : Int) := ⟨_, rfl⟩
    have hfull : i < (lIS o).length := by
      rcases Nat.lt_or_ge i (lIS o).length with h5 | h5
      · exact h5
      · have h6 := count_all (l := gone) (by omega) (k := edgeOf (lIS o) gone (q : Int)) (by omega)
        rw [s2] at h6
        cases h6
    have hnx := peelF_next (st := st) hsg (k := (lIS o).length - (i + 1))
    rw [show (lIS o).length - (i + 1) + 1 = (lIS o).length - i by omega, hpf] at hnx
    rw [← hk] at hW s1 s2 s3 s4 hnx
    have hf0 : (lI f).getD 0 0 = (q : Int) := by rw [hf, hsg]; rfl
    have hDr := c_spec_l1Drop a (k : Int) (by rw [ha, nI_len]; have := @leftTo_len gone (lIS o).length; omega)
    have hda : (lI a).filter (fun x => decide (x ≠ (k : Int))) = nI (leftTo (gone.set k true) (lIS o).length) := by rw [ha, nI_filter, left_drop (by omega)]
    (try (simp (disch := first | omega | (simp <;> omega) | fail) only [push_cast, ↓reduceIte, Nat.reduceEqDiff, Nat.reduceAdd, Nat.reduceMul, Nat.reduceSub, Nat.reduceLT, Int.reduceToNat, e0, e9, hf0, hb]))
    repeat' (with_reducible refine And.intro ?_ ?_)
    all_goals
      refine hW.call ?_
      have hfb : fillA [AV.int .i64 0, .int .i64 0] [(0, 1, .int .i64 (k : Int)), (1, 1, .int .i64 (q : Int))] = some [.int .i64 (k : Int), .int .i64 (q : Int)] := rfl
      have hfa : fillA (rows [AV.int .i64 0, .int .i64 0] 1) [(0, 2, AV.agg [.int .i64 (k : Int), .int .i64 (q : Int)])] = some [.int .i64 (k : Int), .int .i64 (q : Int)] := rfl
      have hbx : ∀ l : H, H.cells (g ++ some (.cells [.int .i64 (k : Int), .int .i64 (q : Int)]) :: l) g.length = some [.int .i64 (k : Int), .int .i64 (q : Int)] := fun l => by rw [cells_h0]; rfl
      (try (simp (disch := first | omega | (simp <;> omega) | fail) only [push_cast, ↓reduceIte, Nat.reduceEqDiff, Nat.reduceAdd, Nat.reduceMul, Nat.reduceSub, Nat.reduceLT, Int.reduceToNat, hfa, hfb, reads, List.mem_cons, List.mem_append, List.not_mem_nil, nat_ff, or_self, or_false, false_or, not_false_eq_true]))
      refine (hS.frame (h' := g ++ _) fun c hc => List.getElem?_append_left (hS.lt c hc)).app0 (new := [.int .i64 (k : Int), .int .i64 (q : Int)]) (k := 1) (by_ := 16) (fun c hc => Or.inr (by have := hB c hc; omega)) rfl (by omega) fun u2 g4 B2 a1 a2 a3 a4 a5 => ?_
      simp only [List.length_append, List.length_cons, List.length_nil] at a2 a3 a4
      have hS4 : S1 g4 2 u2 (st ++ [(k, q)]).length ((st ++ [(k, q)]).flatMap cSt) B2 := by
        have : (st ++ [(k, q)]).flatMap cSt = st.flatMap cSt ++ [.int .i64 (k : Int), .int .i64 (q : Int)] := by simp [cSt]
        rw [this, List.length_append]
        exact a1
      have hb4 : g4.cells h.length = some [.int .i64 n, eIS o] := cells_keep ((a3 h.length (by omega) fun h5 => by have := hB _ h5; omega).trans (List.getElem?_append_left hlg)) hb
      have hbx4 : g4.cells g.length = some [.int .i64 (k : Int), .int .i64 (q : Int)] := cells_keep (a3 g.length (by omega) fun h5 => by have := hS.lt _ h5; omega) (hbx _)
      have hB4 : ∀ c ∈ B2, h.length + 1 ≤ c := fun c hc => by
        rcases a4 c hc with h5 | h5
        · exact hB c h5
        · omega
      have hcnt := count_set (l := gone) (i := k) (by omega) s2
      (try (simp (disch := first | omega | (simp <;> omega) | fail) only [push_cast, ↓reduceIte, Nat.reduceEqDiff, Nat.reduceAdd, Nat.reduceMul, Nat.reduceSub, Nat.reduceLT, Int.reduceToNat, hbx4]))
      refine hDr.use fun x hx => ?_
      obtain ⟨a2', rfl, hda2⟩ := hx
      rw [hda] at hda2
      (try (simp (disch := first | omega | (simp <;> omega) | fail) only [push_cast, ↓reduceIte, Nat.reduceEqDiff, Nat.reduceAdd, Nat.reduceMul, Nat.reduceSub, Nat.reduceLT, Int.reduceToNat]))
      all_goals (try exact ⟨_, _, _, _, _, ⟨rfl, rfl⟩, hb4, ⟨hS4, hB4⟩, hda2, by simp [hgl], by rw [hcnt]; omega, by simp; omega, hnx.symm⟩)
      done

end Go.Proofs.YtbkcenkfecndjaaGreatDoor.M
