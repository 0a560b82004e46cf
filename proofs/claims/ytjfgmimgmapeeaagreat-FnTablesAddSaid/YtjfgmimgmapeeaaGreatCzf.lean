/-
  What the functions return.
-/
import Derived.Test.YtjfgmimgmapeeaaGreatFzf
import Derived.Test.YtjfgmimgmapeeaaGreatCze
namespace Go.Proofs.YtjfgmimgmapeeaaGreat.M
open Go Go.RowKit
set_option linter.unusedVariables false
set_option linter.unusedSimpArgs false
set_option maxRecDepth 4000

def tblOk (seed seg width : Int) (l : Option (List Int)) : Bool :=
  (decide (0 ≤ seed) && decide (seed ≤ 9999)) && ((decide (1 ≤ seg) && decide (seg ≤ 24)) && ((decide (1 ≤ width) && decide (width ≤ 8)) && (decide (((lI l).length : Int) = 3 * seg) && (lI l).all fun m => decide (0 ≤ m) && decide (m ≤ ((2 ^ width.toNat : Nat) : Int) - 1))))
structure TblF (seed seg width : Int) (l : Option (List Int)) : Prop where
  s0 : 0 ≤ seed
  s1 : seed ≤ 9999
  g0 : 1 ≤ seg
  g1 : seg ≤ 24
  w0 : 1 ≤ width
  w1 : width ≤ 8
  ll : ((lI l).length : Int) = 3 * seg
  cb : ∀ v ∈ lI l, 0 ≤ v ∧ v ≤ ((2 ^ width.toNat : Nat) : Int) - 1
theorem tbl_facts {seed seg width : Int} {l : Option (List Int)} (h : tblOk seed seg width l = true) : TblF seed seg width l := by
  simp only [tblOk, Bool.and_eq_true, decide_eq_true_eq] at h
  obtain ⟨⟨s0, s1⟩, ⟨g0, g1⟩, ⟨w0, w1⟩, ll, ca⟩ := h
  refine ⟨s0, s1, g0, g1, w0, w1, ll, fun v hv => ?_⟩
  have := List.all_eq_true.1 ca v hv
  simpa only [Bool.and_eq_true, decide_eq_true_eq] using this
def cellAt (l : List Int) (p : Int) : Nat := (l.getD p.toNat 0).toNat
def xorT (l : List Int) (ps : List Int) : Nat := ps.foldl (fun s p => s ^^^ cellAt l p) 0
theorem xorT_take {l ps : List Int} {i : Nat} (hi : i < ps.length) : xorT l (ps.take (i + 1)) = xorT l (ps.take i) ^^^ cellAt l (ps.getD i 0) := by
  unfold xorT
  rw [List.take_add_one, List.foldl_append]
  simp [hi]
theorem TblF.cell {seed seg width : Int} {l : Option (List Int)} (F : TblF seed seg width l) {p : Int} (h0 : 0 ≤ p) (h1 : p < 3 * seg) : (lI l).getD p.toNat 0 = ((cellAt (lI l) p : Nat) : Int) ∧ cellAt (lI l) p < 2 ^ width.toNat := by
  have hlt : p.toNat < (lI l).length := by have := F.ll; omega
  have hb := F.cb ((lI l).getD p.toNat 0) (by simp [hlt])
  unfold cellAt
  omega
theorem xorT_lt {l ps : List Int} {w : Nat} (h : ∀ p ∈ ps, cellAt l p < 2 ^ w) : xorT l ps < 2 ^ w := by
  have key : ∀ (ps : List Int) (s : Nat), s < 2 ^ w → (∀ p ∈ ps, cellAt l p < 2 ^ w) → ps.foldl (fun s p => s ^^^ cellAt l p) s < 2 ^ w := by
    intro ps
    induction ps with
    | nil => exact fun s hs _ => hs
    | cons p ps ih => exact fun s hs h => ih _ (Nat.xor_lt_two_pow hs (h p (by simp))) fun q hq => h q (List.mem_cons_of_mem _ hq)
  exact key ps 0 (Nat.two_pow_pos w) h
theorem TblF.places {seed seg width : Int} {l : Option (List Int)} (F : TblF seed seg width l) (key : Str) : ∀ p ∈ tri seed key seg 3, 0 ≤ p ∧ p < 3 * seg := fun p hp => by
  obtain ⟨i, hi, rfl⟩ := List.mem_iff_getElem.1 hp
  rw [tri_len] at hi
  have hb := tri_bd (seed := seed) (key := key) (seg := seg) (i := i) (by have := F.g0; omega) hi
  have hgd : (tri seed key seg 3).getD i 0 = (tri seed key seg 3)[i]'(by rw [tri_len]; exact hi) := by
    rw [List.getD_eq_getElem?_getD, List.getElem?_eq_getElem (by rw [tri_len]; exact hi)]
    rfl
  rwa [hgd] at hb
def valT (seed seg : Int) (l : List Int) (key : Str) : Nat := xorT l (tri seed key seg 3)
theorem TblF.val_lt {seed seg width : Int} {l : Option (List Int)} (F : TblF seed seg width l) (key : Str) : valT seed seg (lI l) key < 2 ^ width.toNat :=
  xorT_lt fun p hp => (F.cell (F.places key p hp).1 (F.places key p hp).2).2
def valsT (seed seg : Int) (l : List Int) (ks : List Str) : List Int := ks.map fun k => ((valT seed seg l k : Nat) : Int)
theorem valsT_len {seed seg : Int} {l : List Int} {ks : List Str} : (valsT seed seg l ks).length = ks.length := by simp [valsT]
theorem valsT_take {seed seg : Int} {l : List Int} {ks : List Str} {i : Nat} (hi : i < ks.length) : (valsT seed seg l ks).take (i + 1) = (valsT seed seg l ks).take i ++ [((valT seed seg l (ks.getD i []) : Nat) : Int)] := by
  have h1 : ks[i]?.toList = [ks.getD i []] := by simp [hi]
  unfold valsT
  rw [← List.map_take, List.take_add_one, h1, List.map_append, List.map_take]
  rfl
def chgOk (seed seg width : Int) (l : Option (List Int)) (keys : Option (List Str)) (i : Int) : Bool :=
  tblOk seed seg width l && (okKeys (lS keys) && (decide (0 ≤ i) && decide (i ≤ ((lS keys).length : Int) - 1)))
theorem chg_task {seed seg width : Int} {l : Option (List Int)} {keys : Option (List Str)} {i value : Int} (h : chgOk seed seg width l keys i = true) : taskOk seed seg width keys (some ((valsT seed seg (lI l) (lS keys)).set i.toNat value)) = (decide (0 ≤ value) && decide (value ≤ ((2 ^ width.toNat : Nat) : Int) - 1)) := by
  simp only [chgOk, Bool.and_eq_true, decide_eq_true_eq] at h
  obtain ⟨ht, hk, h0, h1⟩ := h
  have F := tbl_facts ht
  have hvs : ∀ v ∈ valsT seed seg (lI l) (lS keys), 0 ≤ v ∧ v ≤ ((2 ^ width.toNat : Nat) : Int) - 1 := fun v hv => by
    obtain ⟨k, _, rfl⟩ := List.mem_map.1 hv
    have := F.val_lt k
    omega
  have hil : i.toNat < (valsT seed seg (lI l) (lS keys)).length := by rw [valsT_len]; omega
  have hall : ((valsT seed seg (lI l) (lS keys)).set i.toNat value).all (fun m => decide (0 ≤ m) && decide (m ≤ ((2 ^ width.toNat : Nat) : Int) - 1)) = (decide (0 ≤ value) && decide (value ≤ ((2 ^ width.toNat : Nat) : Int) - 1)) := by
    cases hp : (decide (0 ≤ value) && decide (value ≤ ((2 ^ width.toNat : Nat) : Int) - 1))
    · rw [List.all_eq_false]
      exact ⟨value, List.mem_iff_getElem.2 ⟨i.toNat, by simpa using hil, by simp⟩, by rw [hp]; simp⟩
    · rw [List.all_eq_true]
      intro v hv
      rcases List.mem_or_eq_of_mem_set hv with h5 | h5
      · have := hvs v h5
        simp only [Bool.and_eq_true, decide_eq_true_eq]
        exact this
      · rw [h5]
        exact hp
  have hlen : ((((valsT seed seg (lI l) (lS keys)).set i.toNat value).length : Nat) : Int) = (lS keys).length := by rw [List.length_set, valsT_len]
  unfold taskOk
  have hlI : lI (some ((valsT seed seg (lI l) (lS keys)).set i.toNat value)) = (valsT seed seg (lI l) (lS keys)).set i.toNat value := rfl
  rw [hlI, hall, hlen]
  simp [F.s0, F.s1, F.g0, F.g1, F.w0, F.w1, hk]
def chgV (seed seg width : Int) (l : Option (List Int)) (keys : Option (List Str)) (i value : Int) : AV :=
  if chgOk seed seg width l keys i then tabSolV seed seg width keys (some ((valsT seed seg (lI l) (lS keys)).set i.toNat value)) else .tup [eTab 0 0 0 none, .bool false]
theorem chgV_tup (seed seg width : Int) (l : Option (List Int)) (keys : Option (List Str)) (i value : Int) : ∃ a b c l' q, chgV seed seg width l keys i value = .tup [eTab a b c l', .bool q] ∧ (lI l').length ≤ 72 := by
  unfold chgV
  split
  · exact tabSolV_tup _ _ _ _ _
  · exact ⟨_, _, _, none, _, rfl, by simp [lI]⟩
theorem free_chgV {seed seg width : Int} {l : Option (List Int)} {keys : Option (List Str)} {i value : Int} : Free (chgV seed seg width l keys i value) := by
  obtain ⟨a, b, c, l', q, h, _⟩ := chgV_tup seed seg width l keys i value
  rw [h]
  exact free_tup (free_cons_ free_eTab (free_cons_ free_bool free_nil_))

theorem c_spec_reTable (a b c : Int) (l : Option (List Int)) : Fn Tryz.prog 55 [eTab a b c l] (· = .bool (tblOk a b c l)) := by
  refine Fn.of free_bool fun h => ?_
  unfold tblOk eTab
  obtain ⟨T, hT⟩ : ∃ T : Int, T = ((2 ^ c.toNat : Nat) : Int) := ⟨_, rfl⟩
  rw [← hT]
  refine enter (by kernel_rfl) e55 (by kernel_rfl) rfl fun hok => ?_
  simp only [r55, initEnv_1]
  (try (simp (disch := first | omega | (simp <;> omega) | fail) only [push_cast, ↓reduceIte, Nat.reduceEqDiff, Nat.reduceAdd, Nat.reduceMul, Nat.reduceSub, Nat.reduceLT, Int.reduceToNat, reads, List.mem_cons, List.mem_append, List.not_mem_nil, nat_ff, or_self, or_false, false_or, not_false_eq_true]))
  refine (c_spec_l1In _ _ _).call ?_
  cases h1 : (decide (0 ≤ a) && decide (a ≤ 9999))
  · (try (simp (disch := first | omega | (simp <;> omega) | fail) only [push_cast, ↓reduceIte, Nat.reduceEqDiff, Nat.reduceAdd, Nat.reduceMul, Nat.reduceSub, Nat.reduceLT, Int.reduceToNat, reads, List.mem_cons, List.mem_append, List.not_mem_nil, nat_ff, or_self, or_false, false_or, not_false_eq_true]))
  (try (simp (disch := first | omega | (simp <;> omega) | fail) only [push_cast, ↓reduceIte, Nat.reduceEqDiff, Nat.reduceAdd, Nat.reduceMul, Nat.reduceSub, Nat.reduceLT, Int.reduceToNat, reads, List.mem_cons, List.mem_append, List.not_mem_nil, nat_ff, or_self, or_false, false_or, not_false_eq_true]))
  refine (c_spec_l1In _ _ _).call ?_
  cases h2 : (decide (1 ≤ b) && decide (b ≤ 24))
  · (try (simp (disch := first | omega | (simp <;> omega) | fail) only [push_cast, ↓reduceIte, Nat.reduceEqDiff, Nat.reduceAdd, Nat.reduceMul, Nat.reduceSub, Nat.reduceLT, Int.reduceToNat, reads, List.mem_cons, List.mem_append, List.not_mem_nil, nat_ff, or_self, or_false, false_or, not_false_eq_true]))
  (try (simp (disch := first | omega | (simp <;> omega) | fail) only [push_cast, ↓reduceIte, Nat.reduceEqDiff, Nat.reduceAdd, Nat.reduceMul, Nat.reduceSub, Nat.reduceLT, Int.reduceToNat, reads, List.mem_cons, List.mem_append, List.not_mem_nil, nat_ff, or_self, or_false, false_or, not_false_eq_true]))
  refine (c_spec_reWidth _).call ?_
  cases h3 : (decide (1 ≤ c) && decide (c ≤ 8))
  · (try (simp (disch := first | omega | (simp <;> omega) | fail) only [push_cast, ↓reduceIte, Nat.reduceEqDiff, Nat.reduceAdd, Nat.reduceMul, Nat.reduceSub, Nat.reduceLT, Int.reduceToNat, reads, List.mem_cons, List.mem_append, List.not_mem_nil, nat_ff, or_self, or_false, false_or, not_false_eq_true]))
  simp only [Bool.and_eq_true, decide_eq_true_eq] at h2 h3
  obtain ⟨w, rfl⟩ : ∃ w : Nat, c = (w : Int) := ⟨c.toNat, by omega⟩
  rw [Int.toNat_natCast] at hT
  have h4 := pow_le256 (w := w) (by omega)
  rw [← hT] at h4
  (try (simp (disch := first | omega | (simp <;> omega) | fail) only [push_cast, ↓reduceIte, Nat.reduceEqDiff, Nat.reduceAdd, Nat.reduceMul, Nat.reduceSub, Nat.reduceLT, Int.reduceToNat, reads, List.mem_cons, List.mem_append, List.not_mem_nil, nat_ff, or_self, or_false, false_or, not_false_eq_true]))
  cases h5 : decide (((lI l).length : Int) = 3 * b)
  · (try (simp (disch := first | omega | (simp <;> omega) | fail) only [push_cast, ↓reduceIte, Nat.reduceEqDiff, Nat.reduceAdd, Nat.reduceMul, Nat.reduceSub, Nat.reduceLT, Int.reduceToNat, reads, List.mem_cons, List.mem_append, List.not_mem_nil, nat_ff, or_self, or_false, false_or, not_false_eq_true]))
  (try (simp (disch := first | omega | (simp <;> omega) | fail) only [push_cast, ↓reduceIte, Nat.reduceEqDiff, Nat.reduceAdd, Nat.reduceMul, Nat.reduceSub, Nat.reduceLT, Int.reduceToNat, reads, List.mem_cons, List.mem_append, List.not_mem_nil, nat_ff, or_self, or_false, false_or, not_false_eq_true]))
  refine (c_spec_reTop w (by omega) T hT).call ?_
  clear hT
  (try (simp (disch := first | omega | (simp <;> omega) | fail) only [push_cast, ↓reduceIte, Nat.reduceEqDiff, Nat.reduceAdd, Nat.reduceMul, Nat.reduceSub, Nat.reduceLT, Int.reduceToNat, reads, List.mem_cons, List.mem_append, List.not_mem_nil, nat_ff, or_self, or_false, false_or, not_false_eq_true]))
  refine (c_spec_l1All _ _ _).call ?_
  (try (simp (disch := first | omega | (simp <;> omega) | fail) only [push_cast, ↓reduceIte, Nat.reduceEqDiff, Nat.reduceAdd, Nat.reduceMul, Nat.reduceSub, Nat.reduceLT, Int.reduceToNat, reads, List.mem_cons, List.mem_append, List.not_mem_nil, nat_ff, or_self, or_false, false_or, not_false_eq_true]))

theorem c_impl_IsTable_1 (a b : Int) (l : Option (List Int)) (w : Nat) (hw : w ≤ 8) (T : Int) (hT : T = ((2 ^ w : Nat) : Int)) (m : Int) : Fn Tryz.prog 96 [.int .i64 m, .rad [.int .i64 a, .int .i64 b, .int .i64 w, eI l] 0] (· = .bool (!(decide (0 ≤ m) && decide (m ≤ T - 1)))) := by
  refine Fn.of free_bool fun h => ?_
  refine enter (by kernel_rfl) e96 (by kernel_rfl) rfl fun hok => ?_
  simp only [r96, initEnv_2]
  have hs := shl16 (j := w) (by omega)
  have h4 := pow_le256 hw
  rw [← hT] at hs h4
  clear hT
  (try (simp (disch := first | omega | (simp <;> omega) | fail) only [push_cast, ↓reduceIte, Nat.reduceEqDiff, Nat.reduceAdd, Nat.reduceMul, Nat.reduceSub, Nat.reduceLT, Int.reduceToNat, hs]))
  refine (c_impl_in _ _ _).call ?_
  (try (simp (disch := first | omega | (simp <;> omega) | fail) only [push_cast, ↓reduceIte, Nat.reduceEqDiff, Nat.reduceAdd, Nat.reduceMul, Nat.reduceSub, Nat.reduceLT, Int.reduceToNat]))

theorem c_impl_IsTable (a b c : Int) (l : Option (List Int)) : Fn Tryz.prog 34 [eTab a b c l] (· = .bool (tblOk a b c l)) := by
  refine Fn.of free_bool fun h => ?_
  unfold tblOk eTab
  obtain ⟨T, hT⟩ : ∃ T : Int, T = ((2 ^ c.toNat : Nat) : Int) := ⟨_, rfl⟩
  rw [← hT]
  refine enter (by kernel_rfl) e34 (by kernel_rfl) rfl fun hok => ?_
  simp only [r34, initEnv_1]
  (try (simp (disch := first | omega | (simp <;> omega) | fail) only [push_cast, ↓reduceIte, Nat.reduceEqDiff, Nat.reduceAdd, Nat.reduceMul, Nat.reduceSub, Nat.reduceLT, Int.reduceToNat]))
  refine (c_impl_isSeed _).call ?_
  cases h1 : (decide (0 ≤ a) && decide (a ≤ 9999))
  · (try (simp (disch := first | omega | (simp <;> omega) | fail) only [push_cast, ↓reduceIte, Nat.reduceEqDiff, Nat.reduceAdd, Nat.reduceMul, Nat.reduceSub, Nat.reduceLT, Int.reduceToNat]))
  (try (simp (disch := first | omega | (simp <;> omega) | fail) only [push_cast, ↓reduceIte, Nat.reduceEqDiff, Nat.reduceAdd, Nat.reduceMul, Nat.reduceSub, Nat.reduceLT, Int.reduceToNat]))
  refine (c_impl_segmentOk _).call ?_
  cases h2 : (decide (1 ≤ b) && decide (b ≤ 24))
  · (try (simp (disch := first | omega | (simp <;> omega) | fail) only [push_cast, ↓reduceIte, Nat.reduceEqDiff, Nat.reduceAdd, Nat.reduceMul, Nat.reduceSub, Nat.reduceLT, Int.reduceToNat]))
  (try (simp (disch := first | omega | (simp <;> omega) | fail) only [push_cast, ↓reduceIte, Nat.reduceEqDiff, Nat.reduceAdd, Nat.reduceMul, Nat.reduceSub, Nat.reduceLT, Int.reduceToNat]))
  refine (c_impl_widthOk _).call ?_
  cases h3 : (decide (1 ≤ c) && decide (c ≤ 8))
  · (try (simp (disch := first | omega | (simp <;> omega) | fail) only [push_cast, ↓reduceIte, Nat.reduceEqDiff, Nat.reduceAdd, Nat.reduceMul, Nat.reduceSub, Nat.reduceLT, Int.reduceToNat]))
  simp only [Bool.and_eq_true, decide_eq_true_eq] at h2 h3
  obtain ⟨w, rfl⟩ : ∃ w : Nat, c = (w : Int) := ⟨c.toNat, by omega⟩
  rw [Int.toNat_natCast] at hT
  (try (simp (disch := first | omega | (simp <;> omega) | fail) only [push_cast, ↓reduceIte, Nat.reduceEqDiff, Nat.reduceAdd, Nat.reduceMul, Nat.reduceSub, Nat.reduceLT, Int.reduceToNat]))
  cases h5 : decide (((lI l).length : Int) = 3 * b)
  · (try (simp (disch := first | omega | (simp <;> omega) | fail) only [push_cast, ↓reduceIte, Nat.reduceEqDiff, Nat.reduceAdd, Nat.reduceMul, Nat.reduceSub, Nat.reduceLT, Int.reduceToNat]))
  have hlen : (lI l).length ≤ 9223372036854775807 := by
    have := of_decide_eq_true h5
    omega
  have hcf := c_ContainsFunc_int_cap l 96 h.length [.int .i64 a, .int .i64 b, .int .i64 (w : Int), eI l] (fun m => !(decide (0 ≤ m) && decide (m ≤ T - 1))) (fun m => c_impl_IsTable_1 a b l w (by omega) T hT m) (free_cons_ free_int (free_cons_ free_int (free_cons_ free_int (free_cons_ free_eI free_nil_)))) (h ++ [some (.cells [.int .i64 a, .int .i64 b, .int .i64 (w : Int), eI l])]) (by rw [cells_h0]; rfl) hlen
  clear hT
  simp only [Bool.not_not] at hcf
  (try (simp (disch := first | omega | (simp <;> omega) | fail) only [push_cast, ↓reduceIte, Nat.reduceEqDiff, Nat.reduceAdd, Nat.reduceMul, Nat.reduceSub, Nat.reduceLT, Int.reduceToNat]))
  refine hcf.mono (fun x h2 hx => ?_) (fun _ _ h => h.elim)
  obtain ⟨rfl, rfl⟩ := hx
  (try (simp (disch := first | omega | (simp <;> omega) | fail) only [push_cast, ↓reduceIte, Nat.reduceEqDiff, Nat.reduceAdd, Nat.reduceMul, Nat.reduceSub, Nat.reduceLT, Int.reduceToNat]))

theorem c_spec_reValue (a b c : Int) (l : Option (List Int)) (key : Str) (ht : tblOk a b c l = true) : Fn Tryz.prog 59 [eTab a b c l, .str key] (· = .int .i64 (valT a b (lI l) key : Nat)) := by
  refine Fn.of free_int fun h => ?_
  unfold eTab valT
  have F := tbl_facts ht
  have h1 := F.g0
  have h2 := F.g1
  have hll := F.ll
  have hw := pow_le256 (w := c.toNat) (by have := F.w1; omega)
  have hfr : ∀ x ∈ [AV.int .i64 a, .int .i64 b, .int .i64 c, eI l], Free x := free_cons_ free_int (free_cons_ free_int (free_cons_ free_int (free_cons_ free_eI free_nil_)))
  refine enter (by kernel_rfl) e59 (by kernel_rfl) rfl fun hok => ?_
  simp only [r59, initEnv_2]
  (try (simp (disch := first | omega | (simp <;> omega) | fail) only [push_cast, ↓reduceIte, Nat.reduceEqDiff, Nat.reduceAdd, Nat.reduceMul, Nat.reduceSub, Nat.reduceLT, Int.reduceToNat]))
  refine (c_spec_peTriple a key b F.s0 F.s1 h1 h2).use ?_
  rintro x ⟨o, rfl, ho⟩
  have hol : (lI o).length = 3 := by rw [ho, tri_len]
  (try (simp (disch := first | omega | (simp <;> omega) | fail) only [push_cast, ↓reduceIte, Nat.reduceEqDiff, Nat.reduceAdd, Nat.reduceMul, Nat.reduceSub, Nat.reduceLT, Int.reduceToNat, hol]))
  refine T_for 3 (fun i e h' => Pins e [(2, .adr h.length 0), (5, .int .i64 (xorT (lI l) ((lI o).take i) : Nat)), (13, eI o), (14, .int .i64 3), (15, .int .i64 i)] ∧ h'.cells h.length = some [.int .i64 a, .int .i64 b, .int .i64 c, eI l]) ?_ ?_
  · (try (simp (disch := first | omega | (simp <;> omega) | fail) only [push_cast, ↓reduceIte, Nat.reduceEqDiff, Nat.reduceAdd, Nat.reduceMul, Nat.reduceSub, Nat.reduceLT, Int.reduceToNat]))
    all_goals (try (first | exact ⟨rfl, by rw [cells_h0]; rfl⟩ | rfl))
  rintro i e h' hi ⟨hp, hb⟩
  refine T_pins hp fun e => ?_
  (try (simp (disch := first | omega | (simp <;> omega) | fail) only [push_cast, ↓reduceIte, Nat.reduceEqDiff, Nat.reduceAdd, Nat.reduceMul, Nat.reduceSub, Nat.reduceLT, Int.reduceToNat]))
  first | refine goC_split (fun hc => ?_) (fun hc => ?_) | refine cnd_split (fun hc => ?_) (fun hc => ?_)
  · (try (simp only [decide_eq_true_eq, decide_eq_false_iff_not, Bool.not_eq_true', Bool.not_eq_false', Bool.and_eq_true, Bool.or_eq_true, Int.not_lt, Int.not_le] at hc)); (try (simp (disch := first | omega | (simp <;> omega) | fail) only [push_cast, ↓reduceIte, Nat.reduceEqDiff, Nat.reduceAdd, Nat.reduceMul, Nat.reduceSub, Nat.reduceLT, Int.reduceToNat]))
    have hi2 : i < (lI o).length := by omega
    have hpl := F.places key ((lI o).getD i 0) (by rw [← ho]; simp [hi2])
    have hce := F.cell hpl.1 hpl.2
    have htk := xorT_take (l := lI l) hi2
    have hxl : xorT (lI l) ((lI o).take i) < 2 ^ c.toNat := xorT_lt fun p hp => by
      have hm : p ∈ tri a key b 3 := by rw [← ho]; exact List.mem_of_mem_take hp
      exact (F.cell (F.places key p hm).1 (F.places key p hm).2).2
    have hxo := bitsI_xor (x := xorT (lI l) ((lI o).take i)) (y := cellAt (lI l) ((lI o).getD i 0)) (by omega) (by omega)
    rw [← htk] at hxo
    generalize (lI o).getD i 0 = p at *
    have hlt : p < (lI l).length := by omega
    (try (simp (disch := first | omega | (simp <;> omega) | fail) only [push_cast, ↓reduceIte, Nat.reduceEqDiff, Nat.reduceAdd, Nat.reduceMul, Nat.reduceSub, Nat.reduceLT, Int.reduceToNat, hb, hce.1, hxo]))
    all_goals (try exact hb)
  · (try (simp only [decide_eq_true_eq, decide_eq_false_iff_not, Bool.not_eq_true', Bool.not_eq_false', Bool.and_eq_true, Bool.or_eq_true, Int.not_lt, Int.not_le] at hc)); (try (simp (disch := first | omega | (simp <;> omega) | fail) only [push_cast, ↓reduceIte, Nat.reduceEqDiff, Nat.reduceAdd, Nat.reduceMul, Nat.reduceSub, Nat.reduceLT, Int.reduceToNat]))
    have hie : i = 3 := by omega
    subst hie
    rw [List.take_of_length_le (by omega), ho]
    (try (simp (disch := first | omega | (simp <;> omega) | fail) only [push_cast, ↓reduceIte, Nat.reduceEqDiff, Nat.reduceAdd, Nat.reduceMul, Nat.reduceSub, Nat.reduceLT, Int.reduceToNat]))

theorem c_impl_Table_value (a b c : Int) (l : Option (List Int)) (key : Str) (o : Option (List Int)) (ho : lI o = tri a key b 3) (ht : tblOk a b c l = true) : Fn Tryz.prog 84 [.rad [.int .i64 a, .int .i64 b, .int .i64 c, eI l] 0, eI o] (· = .int .i64 (valT a b (lI l) key : Nat)) := by
  refine Fn.of free_int fun h => ?_
  unfold valT
  have F := tbl_facts ht
  have h1 := F.g0
  have h2 := F.g1
  have hll := F.ll
  have hw := pow_le256 (w := c.toNat) (by have := F.w1; omega)
  have hol : (lI o).length = 3 := by rw [ho, tri_len]
  have hpl := F.places key
  rw [← ho] at hpl ⊢
  obtain ⟨p0, p1, p2, hq⟩ : ∃ p0 p1 p2, lI o = [p0, p1, p2] := by
    match hh : lI o, hol with
    | [p0, p1, p2], _ => exact ⟨p0, p1, p2, rfl⟩
  rw [hq] at hpl ⊢
  have c0 := F.cell (hpl p0 (by simp)).1 (hpl p0 (by simp)).2
  have c1 := F.cell (hpl p1 (by simp)).1 (hpl p1 (by simp)).2
  have c2 := F.cell (hpl p2 (by simp)).1 (hpl p2 (by simp)).2
  have hp0 := hpl p0 (by simp)
  have hp1 := hpl p1 (by simp)
  have hp2 := hpl p2 (by simp)
  have x1 := bitsI_xor (x := cellAt (lI l) p0) (y := cellAt (lI l) p1) (by omega) (by omega)
  have x1l : cellAt (lI l) p0 ^^^ cellAt (lI l) p1 < 2 ^ c.toNat := Nat.xor_lt_two_pow c0.2 c1.2
  have x2 := bitsI_xor (x := cellAt (lI l) p0 ^^^ cellAt (lI l) p1) (y := cellAt (lI l) p2) (by omega) (by omega)
  have hres : xorT (lI l) [p0, p1, p2] = cellAt (lI l) p0 ^^^ cellAt (lI l) p1 ^^^ cellAt (lI l) p2 := by
    simp [xorT]
  rw [hres]
  have g0 : (lI o).getD 0 0 = p0 := by rw [hq]; rfl
  have g1 : (lI o).getD 1 0 = p1 := by rw [hq]; rfl
  have g2 : (lI o).getD 2 0 = p2 := by rw [hq]; rfl
  clear ho hq hpl hres
  refine enter (by kernel_rfl) e84 (by kernel_rfl) rfl fun hok => ?_
  simp only [r84, initEnv_2]
  (try (simp (disch := first | omega | (simp <;> omega) | fail) only [push_cast, ↓reduceIte, Nat.reduceEqDiff, Nat.reduceAdd, Nat.reduceMul, Nat.reduceSub, Nat.reduceLT, Int.reduceToNat, g0, g1, g2, c0.1, c1.1, c2.1, x1, x2, Int.toNat_zero, Int.toNat_one]))

theorem c_impl_Table_of (a b c : Int) (l : Option (List Int)) (key : Str) (ht : tblOk a b c l = true) : Fn Tryz.prog 64 [.rad [.int .i64 a, .int .i64 b, .int .i64 c, eI l] 0, .str key] (· = .int .i64 (valT a b (lI l) key : Nat)) := by
  refine Fn.of free_int fun h => ?_
  have F := tbl_facts ht
  refine enter (by kernel_rfl) e64 (by kernel_rfl) rfl fun hok => ?_
  simp only [r64, initEnv_2]
  (try (simp (disch := first | omega | (simp <;> omega) | fail) only [push_cast, ↓reduceIte, Nat.reduceEqDiff, Nat.reduceAdd, Nat.reduceMul, Nat.reduceSub, Nat.reduceLT, Int.reduceToNat, reads, List.mem_cons, List.mem_append, List.not_mem_nil, nat_ff, or_self, or_false, false_or, not_false_eq_true]))
  refine (c_impl_threePlaces a key b F.s0 F.s1 F.g0 F.g1).use ?_
  rintro x ⟨o, rfl, ho⟩
  (try (simp (disch := first | omega | (simp <;> omega) | fail) only [push_cast, ↓reduceIte, Nat.reduceEqDiff, Nat.reduceAdd, Nat.reduceMul, Nat.reduceSub, Nat.reduceLT, Int.reduceToNat, reads, List.mem_cons, List.mem_append, List.not_mem_nil, nat_ff, or_self, or_false, false_or, not_false_eq_true]))
  refine (c_impl_Table_value a b c l key o ho ht).call ?_
  (try (simp (disch := first | omega | (simp <;> omega) | fail) only [push_cast, ↓reduceIte, Nat.reduceEqDiff, Nat.reduceAdd, Nat.reduceMul, Nat.reduceSub, Nat.reduceLT, Int.reduceToNat, reads, List.mem_cons, List.mem_append, List.not_mem_nil, nat_ff, or_self, or_false, false_or, not_false_eq_true]))

end Go.Proofs.YtjfgmimgmapeeaaGreat.M
