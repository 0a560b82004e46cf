/-
  What the functions return.
-/
import Derived.Test.YtbkcenkfecndjaaGreatDoorFkq
import Derived.Test.YtbkcenkfecndjaaGreatDoorCkp
namespace Go.Proofs.YtbkcenkfecndjaaGreatDoor.M
open Go Go.RowKit
set_option linter.unusedVariables false
set_option linter.unusedSimpArgs false
set_option maxRecDepth 4000

theorem c_spec_biHash (seed part : Int) (s : Str) (h1 : 0 ≤ seed) (h2 : seed ≤ 9999) (h3 : 0 ≤ part) (h4 : part ≤ 9999) : Fn Tryz.prog 137 [.int .i64 seed, .int .i64 part, .str s] (· = .int .i64 (hashV seed part s)) := by
  refine Fn.of free_int fun h => ?_
  refine enter (by kernel_rfl) e137 (by kernel_rfl) rfl fun hok => ?_
  simp only [r137, initEnv_3]
  have hlen := (okV_2 hok).str
  (try (simp (disch := first | omega | (simp <;> omega) | fail) only [push_cast, ↓reduceIte, Nat.reduceEqDiff, Nat.reduceAdd, Nat.reduceMul, Nat.reduceSub, Nat.reduceLT, Int.reduceToNat]))
  refine T_for s.length (fun i e h' => Pins e [(2, .str s), (7, .int .i64 (hk seed part (s.take i))), (8, .int .i64 i)] ∧ h' = h) ?_ ?_
  · (try (simp (disch := first | omega | (simp <;> omega) | fail) only [push_cast, ↓reduceIte, Nat.reduceEqDiff, Nat.reduceAdd, Nat.reduceMul, Nat.reduceSub, Nat.reduceLT, Int.reduceToNat]))
    all_goals (try simp [hk])
  rintro i e h' hi ⟨hp, rfl⟩
  refine T_pins hp fun e => ?_
  have hb := hk_bd seed part (s.take i)
  (try (simp (disch := first | omega | (simp <;> omega) | fail) only [push_cast, ↓reduceIte, Nat.reduceEqDiff, Nat.reduceAdd, Nat.reduceMul, Nat.reduceSub, Nat.reduceLT, Int.reduceToNat]))
  first | refine goC_split (fun hc => ?_) (fun hc => ?_) | refine cnd_split (fun hc => ?_) (fun hc => ?_)
  · (try (simp only [decide_eq_true_eq, decide_eq_false_iff_not, Bool.not_eq_true', Bool.not_eq_false', Bool.and_eq_true, Bool.or_eq_true, Int.not_lt, Int.not_le] at hc)); (try (simp (disch := first | omega | (simp <;> omega) | fail) only [push_cast, ↓reduceIte, Nat.reduceEqDiff, Nat.reduceAdd, Nat.reduceMul, Nat.reduceSub, Nat.reduceLT, Int.reduceToNat]))
    have hi : i < s.length := by omega
    have hcb : (s.getD i 0).toNat < 256 := UInt8.toNat_lt _
    have hn := hk_take (seed := seed) (part := part) hi
    (try (simp (disch := first | omega | (simp <;> omega) | fail) only [push_cast, ↓reduceIte, Nat.reduceEqDiff, Nat.reduceAdd, Nat.reduceMul, Nat.reduceSub, Nat.reduceLT, Int.reduceToNat]))
    all_goals (try (rw [hn]))
  · (try (simp only [decide_eq_true_eq, decide_eq_false_iff_not, Bool.not_eq_true', Bool.not_eq_false', Bool.and_eq_true, Bool.or_eq_true, Int.not_lt, Int.not_le] at hc)); (try (simp (disch := first | omega | (simp <;> omega) | fail) only [push_cast, ↓reduceIte, Nat.reduceEqDiff, Nat.reduceAdd, Nat.reduceMul, Nat.reduceSub, Nat.reduceLT, Int.reduceToNat]))
    have he : s.take i = s := List.take_of_length_le (by omega)
    rw [he] at hb ⊢
    unfold hashV
    generalize hk seed part s = x at hb ⊢
    have m2 := mul_bd (x := x) (y := x) (a := 65521) (b := 65521) (by omega) (by omega) (by omega) (by omega)
    have m4 := mul_bd (x := x * x % 65521) (y := x * x % 65521) (a := 65521) (b := 65521) (by omega) (by omega) (by omega) (by omega)
    have m5 := mul_bd (x := x * x % 65521 * (x * x % 65521) % 65521) (y := x) (a := 65521) (b := 65521) (by omega) (by omega) (by omega) (by omega)
    have m10 := mul_bd (x := x * x % 65521 * (x * x % 65521) % 65521 * x % 65521) (y := x * x % 65521 * (x * x % 65521) % 65521 * x % 65521) (a := 65521) (b := 65521) (by omega) (by omega) (by omega) (by omega)
    have m11 := mul_bd (x := x * x % 65521 * (x * x % 65521) % 65521 * x % 65521 * (x * x % 65521 * (x * x % 65521) % 65521 * x % 65521) % 65521) (y := x) (a := 65521) (b := 65521) (by omega) (by omega) (by omega) (by omega)
    have e2 : x * x % 65521 = x ^ 2 % 65521 := by rw [Int.pow_succ, Int.pow_succ, Int.pow_zero, Int.one_mul]
    have e11 : x * x % 65521 * (x * x % 65521) % 65521 * x % 65521 * (x * x % 65521 * (x * x % 65521) % 65521 * x % 65521) % 65521 * x % 65521 = x ^ 11 % 65521 := by
      rw [e2, pow_join, pow_step, pow_join, pow_step]
    (try (simp (disch := first | omega | (simp <;> omega) | fail) only [push_cast, ↓reduceIte, Nat.reduceEqDiff, Nat.reduceAdd, Nat.reduceMul, Nat.reduceSub, Nat.reduceLT, Int.reduceToNat]))
    all_goals (try exact e11)

theorem c_spec_biPlace (seed part : Int) (s : Str) (n : Int) (h1 : 0 ≤ seed) (h2 : seed ≤ 9999) (h3 : 0 ≤ part) (h4 : part ≤ 9999) (h5 : 0 ≤ n) (h6 : n ≤ 1048576) : Fn Tryz.prog 122 [.int .i64 seed, .int .i64 part, .str s, .int .i64 n] (· = .int .i64 (placeV seed part s n)) := by
  refine Fn.of free_int fun h => ?_
  refine enter (by kernel_rfl) e122 (by kernel_rfl) rfl fun hok => ?_
  simp only [r122, initEnv_4]
  (try (simp (disch := first | omega | (simp <;> omega) | fail) only [push_cast, ↓reduceIte, Nat.reduceEqDiff, Nat.reduceAdd, Nat.reduceMul, Nat.reduceSub, Nat.reduceLT, Int.reduceToNat]))
  refine (c_spec_biHash seed part s h1 h2 h3 h4).call ?_
  have hb := hashV_bd seed part s
  have hm := mul_bd (x := hashV seed part s) (y := n) (a := 65521) (b := 1048576) (by omega) (by omega) h5 h6
  (try (simp (disch := first | omega | (simp <;> omega) | fail) only [push_cast, ↓reduceIte, Nat.reduceEqDiff, Nat.reduceAdd, Nat.reduceMul, Nat.reduceSub, Nat.reduceLT, Int.reduceToNat]))
  all_goals (try rfl)

theorem c_spec_peTriple (seed : Int) (key : Str) (seg : Int) (h1 : 0 ≤ seed) (h2 : seed ≤ 9999) (h3 : 1 ≤ seg) (h4 : seg ≤ 24) : Fn Tryz.prog 102 [.int .i64 seed, .str key, .int .i64 seg] (fun x => ∃ o, x = eI o ∧ lI o = tri seed key seg 3) := by
  refine Fn.froze_ fun h => ?_
  refine enter (by kernel_rfl) e102 (by kernel_rfl) rfl fun hok => ?_
  simp only [r102, initEnv_3]
  (try (simp (disch := first | omega | (simp <;> omega) | fail) only [push_cast, ↓reduceIte, Nat.reduceEqDiff, Nat.reduceAdd, Nat.reduceMul, Nat.reduceSub, Nat.reduceLT, Int.reduceToNat]))
  refine T_for 3 (fun i e h' => ∃ v, Pins e [(0, .int .i64 seed), (1, .str key), (2, .int .i64 seg), (7, v), (8, .int .i64 i)] ∧ Gr h h' 1 v i ((tri seed key seg i).map (.int .i64))) ?_ ?_
  · refine ⟨.nils, ?_, Gr.refl⟩
    (try (simp (disch := first | omega | (simp <;> omega) | fail) only [push_cast, ↓reduceIte, Nat.reduceEqDiff, Nat.reduceAdd, Nat.reduceMul, Nat.reduceSub, Nat.reduceLT, Int.reduceToNat]))
  rintro i e h' hi ⟨v, hp, hg⟩
  refine T_pins hp fun e => ?_
  (try (simp (disch := first | omega | (simp <;> omega) | fail) only [push_cast, ↓reduceIte, Nat.reduceEqDiff, Nat.reduceAdd, Nat.reduceMul, Nat.reduceSub, Nat.reduceLT, Int.reduceToNat]))
  first | refine goC_split (fun hc => ?_) (fun hc => ?_) | refine cnd_split (fun hc => ?_) (fun hc => ?_)
  · (try (simp only [decide_eq_true_eq, decide_eq_false_iff_not, Bool.not_eq_true', Bool.not_eq_false', Bool.and_eq_true, Bool.or_eq_true, Int.not_lt, Int.not_le] at hc)); (try (simp (disch := first | omega | (simp <;> omega) | fail) only [push_cast, ↓reduceIte, Nat.reduceEqDiff, Nat.reduceAdd, Nat.reduceMul, Nat.reduceSub, Nat.reduceLT, Int.reduceToNat]))
    have hb := placeV_bd (seed := seed) (part := (i : Int)) (s := key) (n := seg) (by omega)
    have hm := mul_bd (x := (i : Int)) (y := seg) (a := 3) (b := 24) (by omega) (by omega) (by omega) (by omega)
    refine (c_spec_biPlace seed i key seg (by omega) (by omega) (by omega) (by omega) (by omega) (by omega)).call ?_
    (try (simp (disch := first | omega | (simp <;> omega) | fail) only [push_cast, ↓reduceIte, Nat.reduceEqDiff, Nat.reduceAdd, Nat.reduceMul, Nat.reduceSub, Nat.reduceLT, Int.reduceToNat]))
    refine Gr.app2 hg (fun b hb => .inr hb) (new := [.int .i64 (placeV seed i key seg + i * seg)]) rfl (by decide) (by omega) ?_
    intro v' p' q hpl _ hg'
    (try (simp (disch := first | omega | (simp <;> omega) | fail) only [push_cast, ↓reduceIte, Nat.reduceEqDiff, Nat.reduceAdd, Nat.reduceMul, Nat.reduceSub, Nat.reduceLT, Int.reduceToNat]))
    refine ⟨v', rfl, ?_⟩
    rw [tri_succ, List.map_append]
    exact hg'
  · (try (simp only [decide_eq_true_eq, decide_eq_false_iff_not, Bool.not_eq_true', Bool.not_eq_false', Bool.and_eq_true, Bool.or_eq_true, Int.not_lt, Int.not_le] at hc)); (try (simp (disch := first | omega | (simp <;> omega) | fail) only [push_cast, ↓reduceIte, Nat.reduceEqDiff, Nat.reduceAdd, Nat.reduceMul, Nat.reduceSub, Nat.reduceLT, Int.reduceToNat]))
    have : i = 3 := by omega
    subst this
    obtain ⟨o, h5, h6⟩ := Gr.vwI (h := h) (h' := h') (v := v) (l := tri seed key seg 3) (by rw [tri_len]; exact hg)
    exact ⟨eI o, h5, o, rfl, h6⟩

set_option maxHeartbeats 1000000 in
theorem c_spec_peHyper (seed : Int) (keys : Option (List Str)) (seg : Int) (h1 : 0 ≤ seed) (h2 : seed ≤ 9999) (h3 : 1 ≤ seg) (h4 : seg ≤ 24) (hk : (lS keys).length ≤ 1000) : Fn Tryz.prog 83 [.int .i64 seed, eS keys, .int .i64 seg] (· = eHy (3 * seg) (optE (edges seed (lS keys) seg))) := by
  refine Fn.froze_ fun h => ?_
  refine enter (by kernel_rfl) e83 (by kernel_rfl) rfl fun hok => ?_
  simp only [r83, initEnv_3]
  (try (simp (disch := first | omega | (simp <;> omega) | fail) only [push_cast, ↓reduceIte, Nat.reduceEqDiff, Nat.reduceAdd, Nat.reduceMul, Nat.reduceSub, Nat.reduceLT, Int.reduceToNat]))
  refine T_for (lS keys).length (fun i e h' => Pins e [(0, .int .i64 seed), (2, .int .i64 seg), (6, .adr h.length 0), (7, .adr (h.length + 1) 0), (13, eS keys), (14, .int .i64 (lS keys).length), (15, .int .i64 i)] ∧ HyI h h' (3 * seg) ((edges seed (lS keys) seg).take i)) ?_ ?_
  · (try (simp (disch := first | omega | (simp <;> omega) | fail) only [push_cast, ↓reduceIte, Nat.reduceEqDiff, Nat.reduceAdd, Nat.reduceMul, Nat.reduceSub, Nat.reduceLT, Int.reduceToNat]))
    all_goals (try exact ⟨by rw [cells_h0]; rfl, .nils, [], by rw [cells_hk]; rfl, by simpa using S1.nil, by simp, fun _ => rfl⟩)
  rintro i e h' hi ⟨hp, hr⟩
  refine T_pins hp fun e => ?_
  obtain ⟨q1, v, B, q2, q3, q4, q5⟩ := hr
  have hl2 := cells_lt q2
  (try (simp (disch := first | omega | (simp <;> omega) | fail) only [push_cast, ↓reduceIte, Nat.reduceEqDiff, Nat.reduceAdd, Nat.reduceMul, Nat.reduceSub, Nat.reduceLT, Int.reduceToNat]))
  first | refine goC_split (fun hc => ?_) (fun hc => ?_) | refine cnd_split (fun hc => ?_) (fun hc => ?_)
  · (try (simp only [decide_eq_true_eq, decide_eq_false_iff_not, Bool.not_eq_true', Bool.not_eq_false', Bool.and_eq_true, Bool.or_eq_true, Int.not_lt, Int.not_le] at hc)); (try (simp (disch := first | omega | (simp <;> omega) | fail) only [push_cast, ↓reduceIte, Nat.reduceEqDiff, Nat.reduceAdd, Nat.reduceMul, Nat.reduceSub, Nat.reduceLT, Int.reduceToNat]))
    have hi2 : i < (lS keys).length := by omega
    have htk := edges_take (seed := seed) (seg := seg) hi2
    have hlen : ((edges seed (lS keys) seg).take i).length = i := by
      rw [List.length_take, edges_len]
      omega
    rw [hlen] at q3
    generalize (lS keys).getD i [] = key at *
    have q1' : ∀ l, H.cells (h' ++ l) h.length = some [.int .i64 0, .nils] := fun l => cells_app q1
    have q2' : ∀ l, H.cells (h' ++ l) (h.length + 1) = some [.int .i64 (3 * seg), v] := fun l => cells_app q2
    have hone := q3.one_
    have fin : ∀ (h2 : H) (v' : AV) (B' : List Nat), S1 h2 1 v' (i + 1) (((edges seed (lS keys) seg).take i).map (fun e => eI (some e)) ++ [eI (some (tri seed key seg 3))]) B' → h'.length < h2.length → (∀ b, b < h'.length → b ∉ B → h2[b]? = h'[b]?) → (∀ b ∈ B', b ∈ B ∨ h'.length ≤ b) →
        h2.cells (h.length + 1) = some [.int .i64 (3 * seg), v] ∧ one v' = true ∧ cellsOf v' = [v'] ∧ HyI h (wr h2 (h.length + 1) [.int .i64 (3 * seg), v']) (3 * seg) ((edges seed (lS keys) seg).take (i + 1)) := fun h2 v' B' a1 a2 a3 a4 => by
      have hnB : h.length + 1 ∉ B := fun hb => by have := q4 _ hb; omega
      have hnB0 : h.length ∉ B := fun hb => by have := q4 _ hb; omega
      have ho := a1.one_
      have hB' : ∀ b ∈ B', h.length + 2 ≤ b := fun b hb => by
        rcases a4 b hb with h5 | h5
        · exact q4 b h5
        · omega
      refine ⟨cells_keep (a3 _ hl2 hnB) q2, ho.1, ho.2, ?_, v', B', cells_wr2 (by omega), ?_, hB', ?_⟩
      · rw [cells_eq]
        unfold wr
        rw [List.getElem?_set_ne (by omega), ← cells_eq]
        exact cells_keep (a3 _ (by omega) hnB0) q1
      · rw [htk, List.map_append, List.length_append, hlen]
        exact a1.frame fun b hb => by
          unfold wr
          rw [List.getElem?_set_ne (by have := hB' b hb; omega)]
      · rw [htk]
        intro h5
        simp at h5
    (try (simp (disch := first | omega | (simp <;> omega) | fail) only [push_cast, ↓reduceIte, Nat.reduceEqDiff, Nat.reduceAdd, Nat.reduceMul, Nat.reduceSub, Nat.reduceLT, Int.reduceToNat, q2, q2', reads, List.mem_cons, List.mem_append, List.not_mem_nil, nat_ff, or_self, or_false, false_or, not_false_eq_true]))
    repeat' (with_reducible refine And.intro ?_ ?_)
    all_goals
      refine (c_spec_peTriple seed key seg h1 h2 h3 h4).use ?_
      rintro x ⟨o, rfl, ho⟩
      rw [tri_some ho]
      (try (simp (disch := first | omega | (simp <;> omega) | fail) only [push_cast, ↓reduceIte, Nat.reduceEqDiff, Nat.reduceAdd, Nat.reduceMul, Nat.reduceSub, Nat.reduceLT, Int.reduceToNat, q2, q2', reads, List.mem_cons, List.mem_append, List.not_mem_nil, nat_ff, or_self, or_false, false_or, not_false_eq_true]))
      repeat' (with_reducible refine And.intro ?_ ?_)
    all_goals (try
      (refine (q3.frame (h' := h' ++ _) fun b hb => List.getElem?_append_left (q3.lt b hb)).app (new := [eI (some (tri seed key seg 3))]) (k := 1) (fun b hb => Or.inr (by have := q4 b hb; omega)) rfl (by decide) (by omega) fun v' h2 B' a1 a2 a3 a4 => ?_
       simp only [List.length_append, List.length_cons, List.length_nil] at a2 a3 a4
       obtain ⟨f1, f2, f3, f4⟩ := fin h2 v' B' a1 (by omega) (fun b hb hn => (a3 b (by omega) hn).trans (List.getElem?_append_left hb)) (fun b hb => by rcases a4 b hb with h5 | h5; exact .inl h5; exact .inr (by omega))
       (try (simp (disch := first | omega | (simp <;> omega) | fail) only [push_cast, ↓reduceIte, Nat.reduceEqDiff, Nat.reduceAdd, Nat.reduceMul, Nat.reduceSub, Nat.reduceLT, Int.reduceToNat, f1, f2, f3, reads, List.mem_cons, List.mem_append, List.not_mem_nil, nat_ff, or_self, or_false, false_or, not_false_eq_true]))
       try exact f4))
  · (try (simp only [decide_eq_true_eq, decide_eq_false_iff_not, Bool.not_eq_true', Bool.not_eq_false', Bool.and_eq_true, Bool.or_eq_true, Int.not_lt, Int.not_le] at hc)); (try (simp (disch := first | omega | (simp <;> omega) | fail) only [push_cast, ↓reduceIte, Nat.reduceEqDiff, Nat.reduceAdd, Nat.reduceMul, Nat.reduceSub, Nat.reduceLT, Int.reduceToNat]))
    have hie : i = (lS keys).length := by omega
    subst hie
    rw [show (edges seed (lS keys) seg).take (lS keys).length = edges seed (lS keys) seg from List.take_of_length_le (by rw [edges_len]; omega)] at q3 q5
    have hw := cells_wr2 (h := h') (b := h.length) (by omega) (cs := [AV.int .i64 (3 * seg), v])
    have hone := q3.one_
    have hpm : (h.length ≤ h.length) = True := by simp
    (try (simp (disch := first | omega | (simp <;> omega) | fail) only [push_cast, ↓reduceIte, Nat.reduceEqDiff, Nat.reduceAdd, Nat.reduceMul, Nat.reduceSub, Nat.reduceLT, Int.reduceToNat, q1, q2, hw, hone.1, hone.2, hpm]))
    refine ⟨_, .agg (ts := [.int .i64 (3 * seg), eIS (optE (edges seed (lS keys) seg))]) rfl (fun k y t hy ht => ?_), rfl⟩
    rcases k with _ | _ | k
    · simp at hy ht
      subst hy ht
      exact .free free_int
    · simp at hy ht
      subst hy ht
      refine S1.vwE (q3.frame fun b hb => ?_) (fun b hb => by have := q4 b hb; omega) q5
      unfold wr
      rw [List.getElem?_set_ne (by have := q4 b hb; omega)]
    · simp at hy

theorem c_spec_peCore (n : Nat) (o : Option (List (List Int))) (hE : ∀ e ∈ lIS o, ∀ p ∈ e, 0 ≤ p ∧ p < (n : Int)) (hn : n ≤ 1000) (hl : (lIS o).length ≤ 1000) (he : ∀ e ∈ lIS o, e.length ≤ 1000) :
    Fn Tryz.prog 101 [eHy n o] (fun x => ∃ a : Option (List Int), x = eI a ∧ lI a = nI (leftTo (peelV n (lIS o)).2 (lIS o).length)) := by
  refine Fn.froze_ fun h => ?_
  refine enter (by kernel_rfl) e101 (by kernel_rfl) rfl fun hok => ?_
  simp only [r101, initEnv_1]
  have hP := c_spec_pePeel n o hE hn hl he
  rw [show eHy n o = .agg [.int .i64 n, eIS o] from rfl] at hP ⊢
  have hfin : ∀ (hh : H) (a : Option (List Int)), lI a = nI (leftTo (peelV n (lIS o)).2 (lIS o).length) → ∃ t, Vw hh h.length (eI a) t ∧ ∃ a : Option (List Int), t = eI a ∧ lI a = nI (leftTo (peelV n (lIS o)).2 (lIS o).length) := fun hh a ha => ⟨_, .free free_eI, a, rfl, ha⟩
  (try (simp (disch := first | omega | (simp <;> omega) | fail) only [push_cast, ↓reduceIte, Nat.reduceEqDiff, Nat.reduceAdd, Nat.reduceMul, Nat.reduceSub, Nat.reduceLT, Int.reduceToNat]))
  refine hP.use fun x hx => ?_
  obtain ⟨s, a, rfl, _, ha⟩ := hx
  (try (simp (disch := first | omega | (simp <;> omega) | fail) only [push_cast, ↓reduceIte, Nat.reduceEqDiff, Nat.reduceAdd, Nat.reduceMul, Nat.reduceSub, Nat.reduceLT, Int.reduceToNat]))
  all_goals (try exact hfin _ a ha)
  done

theorem edges_in {seed seg : Int} {K : List Str} (h3 : 1 ≤ seg) {n : Nat} (hn : (n : Int) = 3 * seg) : ∀ e ∈ edges seed K seg, ∀ p ∈ e, 0 ≤ p ∧ p < (n : Int) := by
  intro e he p hp
  unfold edges at he
  obtain ⟨k, _, rfl⟩ := List.mem_map.1 he
  obtain ⟨i, hi, rfl⟩ := List.mem_iff_getElem.1 hp
  rw [tri_len] at hi
  have := tri_bd (seed := seed) (key := k) (seg := seg) (i := i) (by omega) hi
  rw [List.getD_eq_getElem?_getD, List.getElem?_eq_getElem (by rw [tri_len]; exact hi)] at this
  simp only [Option.getD_some] at this
  omega
theorem edges_three {seed seg : Int} {K : List Str} : ∀ e ∈ edges seed K seg, e.length = 3 := by
  intro e he
  unfold edges at he
  obtain ⟨k, _, rfl⟩ := List.mem_map.1 he
  exact tri_len
/-- Are all edges peeled? -/
def peelsB (seed : Int) (K : List Str) (seg : Int) : Bool := decide ((leftTo (peelV (3 * seg).toNat (edges seed K seg)).2 (edges seed K seg).length).length = 0)
def keyedB (seed : Int) (K : List Str) (seg : Int) : Bool := (decide (0 ≤ seed) && decide (seed ≤ 9999)) && (okKeys K && (decide (1 ≤ seg) && decide (seg ≤ 24)))
/-- The index of a place in an edge. -/
def idxP (e : List Int) (p : Int) : Nat := if p ∈ e then e.idxOf p else 0
/-- One mark, and all of them, the last step first. -/
def mkStep (E : List (List Int)) (m : List Int) (s : Nat × Nat) : List Int := m.set s.2 (((idxP (E.getD s.1 []) (s.2 : Int) : Int) + 2 * sumAt m (E.getD s.1 [])) % 3)
def mkTo (E : List (List Int)) (st : List (Nat × Nat)) (n r : Nat) : List Int := (st.drop (st.length - r)).reverse.foldl (mkStep E) (List.replicate n 3)
def mkAll (E : List (List Int)) (st : List (Nat × Nat)) (n : Nat) : List Int := st.reverse.foldl (mkStep E) (List.replicate n 3)
theorem mkTo_all {E : List (List Int)} {st : List (Nat × Nat)} {n : Nat} : mkTo E st n st.length = mkAll E st n := by
  unfold mkTo mkAll
  rw [Nat.sub_self, List.drop_zero]
theorem mkTo_zero {E : List (List Int)} {st : List (Nat × Nat)} {n : Nat} : mkTo E st n 0 = List.replicate n 3 := by
  unfold mkTo
  rw [Nat.sub_zero, List.drop_length]
  rfl
theorem mkTo_succ {E : List (List Int)} {st : List (Nat × Nat)} {n r : Nat} (hr : r < st.length) : mkTo E st n (r + 1) = mkStep E (mkTo E st n r) (st.getD (st.length - 1 - r) (0, 0)) := by
  unfold mkTo
  have e : st.drop (st.length - (r + 1)) = st.getD (st.length - 1 - r) (0, 0) :: st.drop (st.length - r) := by
    rw [List.drop_eq_getElem_cons (show st.length - (r + 1) < st.length by omega)]
    have h1 : st.length - (r + 1) + 1 = st.length - r := by omega
    have h2 : st.length - (r + 1) = st.length - 1 - r := by omega
    rw [h1, List.getD_eq_getElem?_getD, List.getElem?_eq_getElem (show st.length - 1 - r < st.length by omega)]
    simp only [h2]
    rfl
  rw [e, List.reverse_cons, List.foldl_append]
  rfl
theorem mkStep_len {E : List (List Int)} {m : List Int} {s : Nat × Nat} : (mkStep E m s).length = m.length := by simp [mkStep]
theorem fold_len {E : List (List Int)} : ∀ (l : List (Nat × Nat)) (m : List Int), (l.foldl (mkStep E) m).length = m.length
  | [], m => rfl
  | s :: l, m => by rw [List.foldl_cons, fold_len l, mkStep_len]
theorem mkTo_len {E : List (List Int)} {st : List (Nat × Nat)} {n r : Nat} : (mkTo E st n r).length = n := by
  unfold mkTo
  rw [fold_len]
  simp
theorem okMarks_iff {l : List Int} : okMarks l = true ↔ ∀ x ∈ l, 0 ≤ x ∧ x ≤ 3 := by
  unfold okMarks
  rw [List.all_eq_true]
  simp
theorem mkStep_ok {E : List (List Int)} {m : List Int} {s : Nat × Nat} (hm : okMarks m = true) : okMarks (mkStep E m s) = true := by
  rw [okMarks_iff] at hm ⊢
  intro x hx
  rcases List.mem_or_eq_of_mem_set hx with h | h
  · exact hm x h
  · rw [h]
    omega
theorem fold_ok {E : List (List Int)} : ∀ (l : List (Nat × Nat)) (m : List Int), okMarks m = true → okMarks (l.foldl (mkStep E) m) = true
  | [], m, h => h
  | s :: l, m, h => fold_ok l _ (mkStep_ok h)
theorem mkTo_ok {E : List (List Int)} {st : List (Nat × Nat)} {n r : Nat} : okMarks (mkTo E st n r) = true := by
  unfold mkTo
  refine fold_ok _ _ (okMarks_iff.2 fun x hx => ?_)
  rw [(List.mem_replicate.1 hx).2]
  omega
/-- Steps name edges and places that there are. -/
theorem peelF_in {n : Nat} {E : List (List Int)} : ∀ (k : Nat) (gone : List Bool) (st : List (Nat × Nat)), (∀ s ∈ st, s.1 < E.length ∧ s.2 < n ∧ ((s.2 : Nat) : Int) ∈ E.getD s.1 []) → ∀ s ∈ (peelF n E k gone st).1, s.1 < E.length ∧ s.2 < n ∧ ((s.2 : Nat) : Int) ∈ E.getD s.1 []
  | 0, gone, st, h => h
  | k + 1, gone, st, h => by
    intro s hs
    unfold peelF at hs
    split at hs
    · exact h s hs
    · rename_i p ps hsg
      refine peelF_in k _ _ (fun s hs => ?_) s hs
      rcases List.mem_append.1 hs with h1 | h1
      · exact h s h1
      · rw [List.mem_singleton] at h1
        subst h1
        have hq := sing_mem (n := n) (E := E) (gone := gone) (p := p) (by rw [hsg]; simp)
        have hpos : 0 < cnt E gone E.length (p : Int) := by omega
        obtain ⟨s1, s2, s3, s4⟩ := edgeOf_spec hpos
        exact ⟨s1, hq.1, s3⟩
theorem peel_in {n : Nat} {E : List (List Int)} : ∀ s ∈ (peelV n E).1, s.1 < E.length ∧ s.2 < n ∧ ((s.2 : Nat) : Int) ∈ E.getD s.1 [] := peelF_in _ _ _ (by simp)
theorem peelF_len {n : Nat} {E : List (List Int)} : ∀ (k : Nat) (gone : List Bool) (st : List (Nat × Nat)), (peelF n E k gone st).1.length ≤ st.length + k
  | 0, gone, st => by simp [peelF]
  | k + 1, gone, st => by
    unfold peelF
    split
    · exact Nat.le_add_right _ _
    · refine Nat.le_trans (peelF_len k _ _) ?_
      simp
      omega
theorem peel_len {n : Nat} {E : List (List Int)} : (peelV n E).1.length ≤ E.length := by
  have := peelF_len (n := n) (E := E) E.length (List.replicate E.length false) []
  simpa [peelV] using this
/-- What BuildPeeled answers. -/
def bpM (seed : Int) (K : List Str) (seg : Int) : List Int := mkAll (edges seed K seg) (peelV (3 * seg).toNat (edges seed K seg)).1 (3 * seg).toNat
def bpV (seed : Int) (K : List Str) (seg : Int) : AV := if keyedB seed K seg = true ∧ peelsB seed K seg = true then .tup [eP ⟨seed, seg, some (bpM seed K seg)⟩, .bool true] else .tup [eP ⟨0, 0, none⟩, .bool false]
theorem get_st {st : List (Nat × Nat)} {i : Nat} (hi : i < st.length) : (st.flatMap cSt)[i * 2]? = some (.int .i64 (st.getD i (0, 0)).1) ∧ (st.flatMap cSt)[i * 2 + 1]? = some (.int .i64 (st.getD i (0, 0)).2) := by
  induction st generalizing i with
  | nil => simp at hi
  | cons s st ih =>
    cases i with
    | zero => simp [cSt]
    | succ i =>
      have h5 := ih (i := i) (by simpa using hi)
      have e1 : (i + 1) * 2 = i * 2 + 2 := by omega
      rw [e1]
      simpa [cSt] using h5

theorem c_spec_pePeels (seed : Int) (o : Option (List Str)) (seg : Int) (hk : keyedB seed (lS o) seg = true) : Fn Tryz.prog 82 [.int .i64 seed, eS o, .int .i64 seg] (· = .bool (peelsB seed (lS o) seg)) := by
  refine Fn.of free_bool fun h => ?_
  refine enter (by kernel_rfl) e82 (by kernel_rfl) rfl fun hok => ?_
  simp only [r82, initEnv_3]
  simp only [keyedB, Bool.and_eq_true, decide_eq_true_eq] at hk
  obtain ⟨⟨k1, k2⟩, k3, k4, k5⟩ := hk
  have hKA := okKeys_all k3
  obtain ⟨n, hn⟩ : ∃ n : Nat, (n : Int) = 3 * seg := ⟨(3 * seg).toNat, by omega⟩
  have hnt : (3 * seg).toNat = n := by omega
  have hH := c_spec_peHyper seed o seg k1 k2 k4 k5 (by omega)
  have hel := @edges_len seed seg (lS o)
  have hC := c_spec_peCore n (optE (edges seed (lS o) seg)) (by rw [lIS_optE]; exact edges_in k4 hn) (by omega) (by rw [lIS_optE]; omega) (by rw [lIS_optE]; intro e he; rw [edges_three e he]; omega)
  rw [lIS_optE, hn] at hC
  rw [show peelsB seed (lS o) seg = decide ((leftTo (peelV n (edges seed (lS o) seg)).2 (edges seed (lS o) seg).length).length = 0) by unfold peelsB; rw [hnt]]
  (try (simp (disch := first | omega | (simp <;> omega) | fail) only [push_cast, ↓reduceIte, Nat.reduceEqDiff, Nat.reduceAdd, Nat.reduceMul, Nat.reduceSub, Nat.reduceLT, Int.reduceToNat]))
  refine hH.call ?_
  (try (simp (disch := first | omega | (simp <;> omega) | fail) only [push_cast, ↓reduceIte, Nat.reduceEqDiff, Nat.reduceAdd, Nat.reduceMul, Nat.reduceSub, Nat.reduceLT, Int.reduceToNat]))
  refine hC.use fun x hx => ?_
  obtain ⟨a, rfl, ha⟩ := hx
  have hla : (lI a).length = (leftTo (peelV n (edges seed (lS o) seg)).2 (edges seed (lS o) seg).length).length := by rw [ha, nI_len]
  by_cases h0 : (leftTo (peelV n (edges seed (lS o) seg)).2 (edges seed (lS o) seg).length).length = 0
  · have e0 : (((lI a).length : Int) = 0) = True := eq_true (by omega)
    (try (simp (disch := first | omega | (simp <;> omega) | fail) only [push_cast, ↓reduceIte, Nat.reduceEqDiff, Nat.reduceAdd, Nat.reduceMul, Nat.reduceSub, Nat.reduceLT, Int.reduceToNat, e0, h0]))
    done
  · have e0 : (((lI a).length : Int) = 0) = False := eq_false (by omega)
    (try (simp (disch := first | omega | (simp <;> omega) | fail) only [push_cast, ↓reduceIte, Nat.reduceEqDiff, Nat.reduceAdd, Nat.reduceMul, Nat.reduceSub, Nat.reduceLT, Int.reduceToNat, e0, h0]))
    done

theorem c_spec_pfIndex (a : Option (List Int)) (p : Int) (hl : (lI a).length ≤ 1000) : Fn Tryz.prog 85 [eI a, .int .i64 p] (· = .int .i64 (idxP (lI a) p)) := by
  refine Fn.of free_int fun h => ?_
  refine enter (by kernel_rfl) e85 (by kernel_rfl) rfl fun hok => ?_
  simp only [r85, initEnv_2]
  (try (simp (disch := first | omega | (simp <;> omega) | fail) only [push_cast, ↓reduceIte, Nat.reduceEqDiff, Nat.reduceAdd, Nat.reduceMul, Nat.reduceSub, Nat.reduceLT, Int.reduceToNat]))
  refine T_for (lI a).length (fun k e h' => Pins e [(1, .int .i64 p), (7, eI a), (8, .int .i64 (lI a).length), (9, .int .i64 k)] ∧ (h' = h ∧ p ∉ (lI a).take k)) ?_ ?_
  · (try (simp (disch := first | omega | (simp <;> omega) | fail) only [push_cast, ↓reduceIte, Nat.reduceEqDiff, Nat.reduceAdd, Nat.reduceMul, Nat.reduceSub, Nat.reduceLT, Int.reduceToNat]))
    all_goals (try simp)
    done
  rintro k e h' hk ⟨hp, rfl, hm⟩
  refine T_pins hp fun e => ?_
  (try (simp (disch := first | omega | (simp <;> omega) | fail) only [push_cast, ↓reduceIte, Nat.reduceEqDiff, Nat.reduceAdd, Nat.reduceMul, Nat.reduceSub, Nat.reduceLT, Int.reduceToNat]))
  first | refine goC_split (fun hc => ?_) (fun hc => ?_) | refine cnd_split (fun hc => ?_) (fun hc => ?_)
  · (try (simp only [decide_eq_true_eq, decide_eq_false_iff_not, Bool.not_eq_true', Bool.not_eq_false', Bool.and_eq_true, Bool.or_eq_true, Int.not_lt, Int.not_le] at hc)); (try (simp (disch := first | omega | (simp <;> omega) | fail) only [push_cast, ↓reduceIte, Nat.reduceEqDiff, Nat.reduceAdd, Nat.reduceMul, Nat.reduceSub, Nat.reduceLT, Int.reduceToNat]))
    have hk2 : k < (lI a).length := by omega
    obtain ⟨x, hx⟩ : ∃ x, x = (lI a).getD k 0 := ⟨_, rfl⟩
    have htk : (lI a).take (k + 1) = (lI a).take k ++ [x] := by
      rw [List.take_add_one, hx]
      simp [hk2]
    by_cases hxp : x = p
    · have hidx : idxP (lI a) p = k := by
        have e : lI a = (lI a).take k ++ p :: (lI a).drop (k + 1) := by
          conv => lhs; rw [← List.take_append_drop k (lI a), List.drop_eq_getElem_cons hk2]
          rw [← hxp, hx]
          simp [hk2]
        have hmem : p ∈ lI a := by rw [e]; simp
        unfold idxP
        rw [if_pos hmem]
        conv => lhs; rw [e]
        rw [List.idxOf_append, if_neg hm, List.idxOf_cons_self, List.length_take]
        omega
      (try (simp (disch := first | omega | (simp <;> omega) | fail) only [push_cast, ↓reduceIte, Nat.reduceEqDiff, Nat.reduceAdd, Nat.reduceMul, Nat.reduceSub, Nat.reduceLT, Int.reduceToNat, ← hx, hxp]))
      all_goals (try rw [hidx])
      done
    · have hm2 : p ∉ (lI a).take (k + 1) := by
        rw [htk, List.mem_append]
        rintro (h | h)
        · exact hm h
        · rw [List.mem_singleton] at h
          exact hxp h.symm
      (try (simp (disch := first | omega | (simp <;> omega) | fail) only [push_cast, ↓reduceIte, Nat.reduceEqDiff, Nat.reduceAdd, Nat.reduceMul, Nat.reduceSub, Nat.reduceLT, Int.reduceToNat, ← hx, hxp]))
      all_goals (try exact hm2)
      done
  · (try (simp only [decide_eq_true_eq, decide_eq_false_iff_not, Bool.not_eq_true', Bool.not_eq_false', Bool.and_eq_true, Bool.or_eq_true, Int.not_lt, Int.not_le] at hc)); (try (simp (disch := first | omega | (simp <;> omega) | fail) only [push_cast, ↓reduceIte, Nat.reduceEqDiff, Nat.reduceAdd, Nat.reduceMul, Nat.reduceSub, Nat.reduceLT, Int.reduceToNat]))
    have hke : k = (lI a).length := by omega
    subst hke
    rw [List.take_length] at hm
    have hidx : idxP (lI a) p = 0 := by unfold idxP; rw [if_neg hm]
    (try (simp (disch := first | omega | (simp <;> omega) | fail) only [push_cast, ↓reduceIte, Nat.reduceEqDiff, Nat.reduceAdd, Nat.reduceMul, Nat.reduceSub, Nat.reduceLT, Int.reduceToNat]))
    all_goals (try rw [hidx])
    all_goals (try rfl)
    done

end Go.Proofs.YtbkcenkfecndjaaGreatDoor.M
