/-
  What the functions return.
-/
import Derived.Test.YtjfgmimgmapeeaaGreatFyf
import Derived.Test.YtjfgmimgmapeeaaGreatCye
namespace Go.Proofs.YtjfgmimgmapeeaaGreat.M
open Go Go.RowKit
set_option linter.unusedVariables false
set_option linter.unusedSimpArgs false
set_option maxRecDepth 4000

def tblOk (seed seg width : Int) (l : Option (List Int)) : Bool :=
  (decide (0 ≤ seed) && decide (seed ≤ 9999)) && ((decide (1 ≤ seg) && decide (seg ≤ 24)) && ((decide (1 ≤ width) && decide (width ≤ 8)) && (decide (((lI l).length : Int) = 3 * seg) && (lI l).all fun m => decide (0 ≤ m) && decide (m ≤ ((2 ^ width.toNat : Nat) : Int) - 1))))
structure TblF (seed seg width : Int) (l : Option (List Int)) : Prop where
  s0 : 0 ≤ seed
  s1 : seed ≤ 9999
  g0 : 1 ≤ seg
  g1 : seg ≤ 24
  w0 : 1 ≤ width
  w1 : width ≤ 8
  ll : ((lI l).length : Int) = 3 * seg
  cb : ∀ v ∈ lI l, 0 ≤ v ∧ v ≤ ((2 ^ width.toNat : Nat) : Int) - 1
theorem tbl_facts {seed seg width : Int} {l : Option (List Int)} (h : tblOk seed seg width l = true) : TblF seed seg width l := by
  simp only [tblOk, Bool.and_eq_true, decide_eq_true_eq] at h
  obtain ⟨⟨s0, s1⟩, ⟨g0, g1⟩, ⟨w0, w1⟩, ll, ca⟩ := h
  refine ⟨s0, s1, g0, g1, w0, w1, ll, fun v hv => ?_⟩
  have := List.all_eq_true.1 ca v hv
  simpa only [Bool.and_eq_true, decide_eq_true_eq] using this
def cellAt (l : List Int) (p : Int) : Nat := (l.getD p.toNat 0).toNat
def xorT (l : List Int) (ps : List Int) : Nat := ps.foldl (fun s p => s ^^^ cellAt l p) 0
theorem TblF.cell {seed seg width : Int} {l : Option (List Int)} (F : TblF seed seg width l) {p : Int} (h0 : 0 ≤ p) (h1 : p < 3 * seg) : (lI l).getD p.toNat 0 = ((cellAt (lI l) p : Nat) : Int) ∧ cellAt (lI l) p < 2 ^ width.toNat := by
  have hlt : p.toNat < (lI l).length := by have := F.ll; omega
  have hb := F.cb ((lI l).getD p.toNat 0) (by simp [hlt])
  unfold cellAt
  omega
theorem TblF.places {seed seg width : Int} {l : Option (List Int)} (F : TblF seed seg width l) (key : Str) : ∀ p ∈ tri seed key seg 3, 0 ≤ p ∧ p < 3 * seg := fun p hp => by
  obtain ⟨i, hi, rfl⟩ := List.mem_iff_getElem.1 hp
  rw [tri_len] at hi
  have hb := tri_bd (seed := seed) (key := key) (seg := seg) (i := i) (by have := F.g0; omega) hi
  have hgd : (tri seed key seg 3).getD i 0 = (tri seed key seg 3)[i]'(by rw [tri_len]; exact hi) := by
    rw [List.getD_eq_getElem?_getD, List.getElem?_eq_getElem (by rw [tri_len]; exact hi)]
    rfl
  rwa [hgd] at hb
def valT (seed seg : Int) (l : List Int) (key : Str) : Nat := xorT l (tri seed key seg 3)
theorem c_impl_IsTable_1 (a b : Int) (l : Option (List Int)) (w : Nat) (hw : w ≤ 8) (T : Int) (hT : T = ((2 ^ w : Nat) : Int)) (m : Int) : Fn Tryz.prog 96 [.int .i64 m, .rad [.int .i64 a, .int .i64 b, .int .i64 w, eI l] 0] (· = .bool (!(decide (0 ≤ m) && decide (m ≤ T - 1)))) := by
  refine Fn.of free_bool fun h => ?_
  refine enter (by kernel_rfl) e96 (by kernel_rfl) rfl fun hok => ?_
  simp only [r96, initEnv_2]
  have hs := shl16 (j := w) (by omega)
  have h4 := pow_le256 hw
  rw [← hT] at hs h4
  clear hT
  (try (simp (disch := first | omega | (simp <;> omega) | fail) only [push_cast, ↓reduceIte, Nat.reduceEqDiff, Nat.reduceAdd, Nat.reduceMul, Nat.reduceSub, Nat.reduceLT, Int.reduceToNat, hs]))
  refine (c_impl_in _ _ _).call ?_
  (try (simp (disch := first | omega | (simp <;> omega) | fail) only [push_cast, ↓reduceIte, Nat.reduceEqDiff, Nat.reduceAdd, Nat.reduceMul, Nat.reduceSub, Nat.reduceLT, Int.reduceToNat]))

theorem c_impl_IsTable (a b c : Int) (l : Option (List Int)) : Fn Tryz.prog 34 [eTab a b c l] (· = .bool (tblOk a b c l)) := by
  refine Fn.of free_bool fun h => ?_
  unfold tblOk eTab
  obtain ⟨T, hT⟩ : ∃ T : Int, T = ((2 ^ c.toNat : Nat) : Int) := ⟨_, rfl⟩
  rw [← hT]
  refine enter (by kernel_rfl) e34 (by kernel_rfl) rfl fun hok => ?_
  simp only [r34, initEnv_1]
  (try (simp (disch := first | omega | (simp <;> omega) | fail) only [push_cast, ↓reduceIte, Nat.reduceEqDiff, Nat.reduceAdd, Nat.reduceMul, Nat.reduceSub, Nat.reduceLT, Int.reduceToNat]))
  refine (c_impl_isSeed _).call ?_
  cases h1 : (decide (0 ≤ a) && decide (a ≤ 9999))
  · (try (simp (disch := first | omega | (simp <;> omega) | fail) only [push_cast, ↓reduceIte, Nat.reduceEqDiff, Nat.reduceAdd, Nat.reduceMul, Nat.reduceSub, Nat.reduceLT, Int.reduceToNat]))
  (try (simp (disch := first | omega | (simp <;> omega) | fail) only [push_cast, ↓reduceIte, Nat.reduceEqDiff, Nat.reduceAdd, Nat.reduceMul, Nat.reduceSub, Nat.reduceLT, Int.reduceToNat]))
  refine (c_impl_segmentOk _).call ?_
  cases h2 : (decide (1 ≤ b) && decide (b ≤ 24))
  · (try (simp (disch := first | omega | (simp <;> omega) | fail) only [push_cast, ↓reduceIte, Nat.reduceEqDiff, Nat.reduceAdd, Nat.reduceMul, Nat.reduceSub, Nat.reduceLT, Int.reduceToNat]))
  (try (simp (disch := first | omega | (simp <;> omega) | fail) only [push_cast, ↓reduceIte, Nat.reduceEqDiff, Nat.reduceAdd, Nat.reduceMul, Nat.reduceSub, Nat.reduceLT, Int.reduceToNat]))
  refine (c_impl_widthOk _).call ?_
  cases h3 : (decide (1 ≤ c) && decide (c ≤ 8))
  · (try (simp (disch := first | omega | (simp <;> omega) | fail) only [push_cast, ↓reduceIte, Nat.reduceEqDiff, Nat.reduceAdd, Nat.reduceMul, Nat.reduceSub, Nat.reduceLT, Int.reduceToNat]))
  simp only [Bool.and_eq_true, decide_eq_true_eq] at h2 h3
  obtain ⟨w, rfl⟩ : ∃ w : Nat, c = (w : Int) := ⟨c.toNat, by omega⟩
  rw [Int.toNat_natCast] at hT
  (try (simp (disch := first | omega | (simp <;> omega) | fail) only [push_cast, ↓reduceIte, Nat.reduceEqDiff, Nat.reduceAdd, Nat.reduceMul, Nat.reduceSub, Nat.reduceLT, Int.reduceToNat]))
  cases h5 : decide (((lI l).length : Int) = 3 * b)
  · (try (simp (disch := first | omega | (simp <;> omega) | fail) only [push_cast, ↓reduceIte, Nat.reduceEqDiff, Nat.reduceAdd, Nat.reduceMul, Nat.reduceSub, Nat.reduceLT, Int.reduceToNat]))
  have hlen : (lI l).length ≤ 9223372036854775807 := by
    have := of_decide_eq_true h5
    omega
  have hcf := c_ContainsFunc_int_cap l 96 h.length [.int .i64 a, .int .i64 b, .int .i64 (w : Int), eI l] (fun m => !(decide (0 ≤ m) && decide (m ≤ T - 1))) (fun m => c_impl_IsTable_1 a b l w (by omega) T hT m) (free_cons_ free_int (free_cons_ free_int (free_cons_ free_int (free_cons_ free_eI free_nil_)))) (h ++ [some (.cells [.int .i64 a, .int .i64 b, .int .i64 (w : Int), eI l])]) (by rw [cells_h0]; rfl) hlen
  clear hT
  simp only [Bool.not_not] at hcf
  (try (simp (disch := first | omega | (simp <;> omega) | fail) only [push_cast, ↓reduceIte, Nat.reduceEqDiff, Nat.reduceAdd, Nat.reduceMul, Nat.reduceSub, Nat.reduceLT, Int.reduceToNat]))
  refine hcf.mono (fun x h2 hx => ?_) (fun _ _ h => h.elim)
  obtain ⟨rfl, rfl⟩ := hx
  (try (simp (disch := first | omega | (simp <;> omega) | fail) only [push_cast, ↓reduceIte, Nat.reduceEqDiff, Nat.reduceAdd, Nat.reduceMul, Nat.reduceSub, Nat.reduceLT, Int.reduceToNat]))

theorem c_impl_Table_value (a b c : Int) (l : Option (List Int)) (key : Str) (o : Option (List Int)) (ho : lI o = tri a key b 3) (ht : tblOk a b c l = true) : Fn Tryz.prog 84 [.rad [.int .i64 a, .int .i64 b, .int .i64 c, eI l] 0, eI o] (· = .int .i64 (valT a b (lI l) key : Nat)) := by
  refine Fn.of free_int fun h => ?_
  unfold valT
  have F := tbl_facts ht
  have h1 := F.g0
  have h2 := F.g1
  have hll := F.ll
  have hw := pow_le256 (w := c.toNat) (by have := F.w1; omega)
  have hol : (lI o).length = 3 := by rw [ho, tri_len]
  have hpl := F.places key
  rw [← ho] at hpl ⊢
  obtain ⟨p0, p1, p2, hq⟩ : ∃ p0 p1 p2, lI o = [p0, p1, p2] := by
    match hh : lI o, hol with
    | [p0, p1, p2], _ => exact ⟨p0, p1, p2, rfl⟩
  rw [hq] at hpl ⊢
  have c0 := F.cell (hpl p0 (by simp)).1 (hpl p0 (by simp)).2
  have c1 := F.cell (hpl p1 (by simp)).1 (hpl p1 (by simp)).2
  have c2 := F.cell (hpl p2 (by simp)).1 (hpl p2 (by simp)).2
  have hp0 := hpl p0 (by simp)
  have hp1 := hpl p1 (by simp)
  have hp2 := hpl p2 (by simp)
  have x1 := bitsI_xor (x := cellAt (lI l) p0) (y := cellAt (lI l) p1) (by omega) (by omega)
  have x1l : cellAt (lI l) p0 ^^^ cellAt (lI l) p1 < 2 ^ c.toNat := Nat.xor_lt_two_pow c0.2 c1.2
  have x2 := bitsI_xor (x := cellAt (lI l) p0 ^^^ cellAt (lI l) p1) (y := cellAt (lI l) p2) (by omega) (by omega)
  have hres : xorT (lI l) [p0, p1, p2] = cellAt (lI l) p0 ^^^ cellAt (lI l) p1 ^^^ cellAt (lI l) p2 := by
    simp [xorT]
  rw [hres]
  have g0 : (lI o).getD 0 0 = p0 := by rw [hq]; rfl
  have g1 : (lI o).getD 1 0 = p1 := by rw [hq]; rfl
  have g2 : (lI o).getD 2 0 = p2 := by rw [hq]; rfl
  clear ho hq hpl hres
  refine enter (by kernel_rfl) e84 (by kernel_rfl) rfl fun hok => ?_
  simp only [r84, initEnv_2]
  (try (simp (disch := first | omega | (simp <;> omega) | fail) only [push_cast, ↓reduceIte, Nat.reduceEqDiff, Nat.reduceAdd, Nat.reduceMul, Nat.reduceSub, Nat.reduceLT, Int.reduceToNat, g0, g1, g2, c0.1, c1.1, c2.1, x1, x2, Int.toNat_zero, Int.toNat_one]))

theorem c_impl_Table_of (a b c : Int) (l : Option (List Int)) (key : Str) (ht : tblOk a b c l = true) : Fn Tryz.prog 64 [.rad [.int .i64 a, .int .i64 b, .int .i64 c, eI l] 0, .str key] (· = .int .i64 (valT a b (lI l) key : Nat)) := by
  refine Fn.of free_int fun h => ?_
  have F := tbl_facts ht
  refine enter (by kernel_rfl) e64 (by kernel_rfl) rfl fun hok => ?_
  simp only [r64, initEnv_2]
  (try (simp (disch := first | omega | (simp <;> omega) | fail) only [push_cast, ↓reduceIte, Nat.reduceEqDiff, Nat.reduceAdd, Nat.reduceMul, Nat.reduceSub, Nat.reduceLT, Int.reduceToNat, reads, List.mem_cons, List.mem_append, List.not_mem_nil, nat_ff, or_self, or_false, false_or, not_false_eq_true]))
  refine (c_impl_threePlaces a key b F.s0 F.s1 F.g0 F.g1).use ?_
  rintro x ⟨o, rfl, ho⟩
  (try (simp (disch := first | omega | (simp <;> omega) | fail) only [push_cast, ↓reduceIte, Nat.reduceEqDiff, Nat.reduceAdd, Nat.reduceMul, Nat.reduceSub, Nat.reduceLT, Int.reduceToNat, reads, List.mem_cons, List.mem_append, List.not_mem_nil, nat_ff, or_self, or_false, false_or, not_false_eq_true]))
  refine (c_impl_Table_value a b c l key o ho ht).call ?_
  (try (simp (disch := first | omega | (simp <;> omega) | fail) only [push_cast, ↓reduceIte, Nat.reduceEqDiff, Nat.reduceAdd, Nat.reduceMul, Nat.reduceSub, Nat.reduceLT, Int.reduceToNat, reads, List.mem_cons, List.mem_append, List.not_mem_nil, nat_ff, or_self, or_false, false_or, not_false_eq_true]))

end Go.Proofs.YtjfgmimgmapeeaaGreat.M
