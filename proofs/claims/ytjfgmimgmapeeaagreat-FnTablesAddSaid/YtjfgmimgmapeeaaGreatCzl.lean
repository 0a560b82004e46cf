/-
  What the functions return.
-/
import Derived.Test.YtjfgmimgmapeeaaGreatFzl
import Derived.Test.YtjfgmimgmapeeaaGreatCzw
namespace Go.Proofs.YtjfgmimgmapeeaaGreat.M
open Go Go.RowKit
set_option linter.unusedVariables false
set_option linter.unusedSimpArgs false
set_option maxRecDepth 4000

theorem c_laws_big (a b : Option (List UInt8)) (ha : (lU a).length ≤ 9223372036854775807) : Fn Tryz.prog 19 [eU a, eU b] (· = .bool (decide (1048576 < ((lU a).length : Int)) || decide (1048576 - ((lU a).length : Int) < ((lU b).length : Int)))) := by
  refine Fn.of free_bool fun h => ?_
  refine enter (by kernel_rfl) e19 (by kernel_rfl) rfl fun hok => ?_
  simp only [r19, initEnv_2]
  by_cases h1 : 1048576 < ((lU a).length : Int)
  · (try (simp (disch := first | omega | (simp <;> omega) | fail) only [push_cast, ↓reduceIte, Nat.reduceEqDiff, Nat.reduceAdd, Nat.reduceMul, Nat.reduceSub, Nat.reduceLT, Int.reduceToNat, h1]))
    all_goals (try simp [h1])
  · (try (simp (disch := first | omega | (simp <;> omega) | fail) only [push_cast, ↓reduceIte, Nat.reduceEqDiff, Nat.reduceAdd, Nat.reduceMul, Nat.reduceSub, Nat.reduceLT, Int.reduceToNat, h1]))
    (first | refine goC_split (fun hc => ?_) (fun hc => ?_) | refine cnd_split (fun hc => ?_) (fun hc => ?_)) <;> ((try (simp (disch := first | omega | (simp <;> omega) | fail) only [push_cast, ↓reduceIte, Nat.reduceEqDiff, Nat.reduceAdd, Nat.reduceMul, Nat.reduceSub, Nat.reduceLT, Int.reduceToNat]))) <;> (try rw [hc])

theorem okKeys_at {l : List Str} (h : okKeys l = true) {k : Nat} (hk : k < l.length) : okKey (l.getD k []) = true := by
  have key : ∀ n, okKeysFrom l n = true → ∀ i, i < n → okKey (l.getD i []) = true := by
    intro n
    induction n with
    | zero => intro _ i hi; omega
    | succ n ih =>
      intro hn i hi
      simp only [okKeysFrom, Bool.and_eq_true] at hn
      by_cases hin : i = n
      · subst hin
        exact hn.2.1
      · exact ih hn.1 i (by omega)
  rw [okKeys, Bool.and_eq_true] at h
  exact key _ h.1 k hk
theorem tblOk_of {a b w : Int} {l l' : Option (List Int)} (F : TblF a b w l) (hl : (((lI l').length : Nat) : Int) = 3 * b) (hc : ∀ v ∈ lI l', 0 ≤ v ∧ v ≤ ((2 ^ w.toNat : Nat) : Int) - 1) : tblOk a b w l' = true := by
  have hall : ((lI l').all fun m => decide (0 ≤ m) && decide (m ≤ ((2 ^ w.toNat : Nat) : Int) - 1)) = true := by
    rw [List.all_eq_true]
    intro v hv
    have := hc v hv
    simp only [Bool.and_eq_true, decide_eq_true_eq]
    exact this
  unfold tblOk
  rw [hall]
  simp [F.s0, F.s1, F.g0, F.g1, F.w0, F.w1, hl]
theorem add_ok {a b w a2 b2 w2 : Int} {l l2 : Option (List Int)} (h : addOk a b w l a2 b2 w2 l2 = true) : a = a2 ∧ b = b2 ∧ w = w2 ∧ tblOk a b w l = true ∧ tblOk a b w l2 = true ∧ tblOk a b w (some (addT (lI l) (lI l2))) = true := by
  simp only [addOk, Bool.and_eq_true, decide_eq_true_eq] at h
  obtain ⟨⟨h1, h2⟩, rfl, rfl, rfl⟩ := h
  have F := tbl_facts h1
  have F2 := tbl_facts h2
  refine ⟨rfl, rfl, rfl, h1, h2, tblOk_of F ?_ ?_⟩
  · show (((addT (lI l) (lI l2)).length : Nat) : Int) = 3 * b
    rw [addT_len]
    exact F.ll
  · intro v hv
    obtain ⟨p, hp, rfl⟩ := List.mem_map.1 (show v ∈ (List.range (lI l).length).map fun p => ((((lI l).getD p 0).toNat ^^^ ((lI l2).getD p 0).toNat : Nat) : Int) from hv)
    have hpl := List.mem_range.1 hp
    have hpl2 : p < (lI l2).length := by have := F.ll; have := F2.ll; omega
    have c1 := F.cb _ (getD_mem (d := 0) hpl)
    have c2 := F2.cb _ (getD_mem (d := 0) hpl2)
    have := Nat.xor_lt_two_pow (x := ((lI l).getD p 0).toNat) (y := ((lI l2).getD p 0).toNat) (n := w.toNat) (by omega) (by omega)
    omega
theorem retV_tup (a b w : Int) (l : Option (List Int)) (key : Str) : ∃ m q, retV a b w l key = .tup [.int .i64 m, .bool q] := by
  unfold retV
  split
  · exact ⟨_, _, rfl⟩
  · exact ⟨_, _, rfl⟩
theorem retV_no {a b w : Int} {l : Option (List Int)} {key : Str} (h : okKey key = false) : retV a b w l key = .tup [.int .i64 0, .bool false] := by
  unfold retV
  rw [h, Bool.and_false]
  rfl
theorem retV_yes {a b w : Int} {l : Option (List Int)} {key : Str} (h1 : tblOk a b w l = true) (h : okKey key = true) : retV a b w l key = .tup [.int .i64 (valT a b (lI l) key : Nat), .bool true] := by
  unfold retV
  rw [h, h1]
  rfl
theorem chg_cases (seed seg width : Int) (l : Option (List Int)) (keys : Option (List Str)) (i value : Int) : chgV seed seg width l keys i value = .tup [eTab 0 0 0 none, .bool false] ∨
    ∃ C : List Int, chgV seed seg width l keys i value = .tup [eTab seed seg width (some C), .bool true] ∧ tblOk seed seg width l = true ∧ tblOk seed seg width (some C) = true ∧ okKeys (lS keys) = true ∧
      ∀ k, k < (lS keys).length → ((valT seed seg C ((lS keys).getD k []) : Nat) : Int) = if (k : Int) = i then value else ((valT seed seg (lI l) ((lS keys).getD k []) : Nat) : Int) := by
  unfold chgV
  cases hc : chgOk seed seg width l keys i
  · exact .inl rfl
  rw [if_pos rfl]
  unfold tabSolV
  cases ht : taskOk seed seg width keys (some ((valsT seed seg (lI l) (lS keys)).set i.toNat value))
  · exact .inl rfl
  rw [if_pos rfl]
  unfold tabSolO
  cases ha : allOk (tabSy seed seg keys (some ((valsT seed seg (lI l) (lS keys)).set i.toNat value))) width.toNat
  · exact .inl rfl
  rw [if_pos rfl]
  have hc2 := hc
  simp only [chgOk, Bool.and_eq_true, decide_eq_true_eq] at hc2
  obtain ⟨hto, hko, hi0, hi1⟩ := hc2
  have F := tbl_facts hto
  have TF := task_facts ht
  refine .inr ⟨_, rfl, hto, tblOk_of F ?_ ?_, hko, fun k hk => ?_⟩
  · show (((cellsL _ _ _ _).length : Nat) : Int) = 3 * seg
    rw [cellsL_len]
    exact TF.nn.symm
  · intro v hv
    obtain ⟨p, hp, rfl⟩ := List.mem_map.1 (show v ∈ (List.range (nT seg)).map fun p => ((mkN (if p < 0 then width.toNat + 1 else width.toNat) (bitsT (tabSy seed seg keys (some ((valsT seed seg (lI l) (lS keys)).set i.toNat value))) p) : Nat) : Int) from hv)
    have := mkN_lt (g := bitsT (tabSy seed seg keys (some ((valsT seed seg (lI l) (lS keys)).set i.toNat value))) p) (n := width.toNat)
    simp only [Nat.not_lt_zero, if_false]
    omega
  · rw [tab_val ht ha hk]
    show ((valsT seed seg (lI l) (lS keys)).set i.toNat value).getD k 0 = _
    by_cases hki : (k : Int) = i
    · rw [if_pos hki]
      have : i.toNat = k := by omega
      subst this
      have hvl : i.toNat < (valsT seed seg (lI l) (lS keys)).length := by rw [valsT_len]; exact hk
      simp [List.getD_eq_getElem?_getD, List.getElem?_set_self hvl]
    · rw [if_neg hki]
      have hne : i.toNat ≠ k := by omega
      rw [List.getD_eq_getElem?_getD, List.getElem?_set_ne hne]
      simp [valsT, hk]

theorem fit_bytes4 {zs : List AV} (h : Fit (.sl (.int .u8) 1) zs) : ∃ a : Option (List UInt8), zs = [eU a] := by
  have key : ∀ xs, Fit (.int .u8) xs → ∃ c : UInt8, xs = [AV.int .u8 (c.toNat : Int)] := fun xs hx => by
    cases hx with
    | @int _ n h1 h2 =>
      have h1' : 0 ≤ n := by simpa [IntKind.min, IntKind.signed, IntKind.bits] using h1
      have h2' : n ≤ 255 := by simpa [IntKind.max, IntKind.signed, IntKind.bits] using h2
      refine ⟨UInt8.ofNat n.toNat, ?_⟩
      have : ((UInt8.ofNat n.toNat).toNat : Int) = n := by
        simp
        omega
      rw [this]
  rcases fit_rows (f := fun c : UInt8 => [AV.int .u8 (c.toNat : Int)]) key h with rfl | ⟨l, rfl⟩
  · exact ⟨none, rfl⟩
  · exact ⟨some l, by rw [flatMap_one]; rfl⟩
def sh_FnTablesAdd : List Sh := [.sl (.int .u8) 1, .sl (.int .u8) 1]
theorem law_FnTablesAdd (ys : List AV) (hy : ArgsFit sh_FnTablesAdd ys) : Call Tryz.prog 4 ys [] Nowhere (fun x _ => x = .bool true) := by
  obtain ⟨x1, y1, rfl, h1, hy⟩ := argsFit_cons hy
  obtain ⟨x2, y2, rfl, h2, hy⟩ := argsFit_cons hy
  obtain rfl := argsFit_nil hy
  obtain ⟨code, hce⟩ := fit_bytes4 h1
  obtain ⟨more, hme⟩ := fit_bytes4 h2
  subst hce hme
  refine (?_ : ∀ h, Call Tryz.prog 4 [eU code, eU more] h Nowhere (fun x _ => x = .bool true)) []
  intro h
  refine enter (by kernel_rfl) e4 (by kernel_rfl) rfl fun hok => ?_
  simp only [r4, initEnv_2]
  have hl1 := ok_eU (okV_0 hok)
  have hl2 := ok_eU (okV_1 hok)
  generalize hD : RCode.seq (.reg (⟨some 123, .v (.mov (.t 1)), none⟩ :: _)) _ = D
  have tail : ∀ (e : Env) (g : H), h.length ≤ g.length → Pins e [(1, eU more)] → T Tryz.prog (fun b => Nowhere b ∨ h.length ≤ b) D (K Tryz.prog (fun b => Nowhere b ∨ h.length ≤ b) [] (Ends [.t 4] fun x _ => x = .bool true)) e g := by
    intro e g hg hp
    rw [← hD]
    refine T_pins hp fun e => ?_
    (try (simp (disch := first | omega | (simp <;> omega) | fail) only [push_cast, ↓reduceIte, Nat.reduceEqDiff, Nat.reduceAdd, Nat.reduceMul, Nat.reduceSub, Nat.reduceLT, Int.reduceToNat]))
    refine (c_spec_DrawChangeValue more).use ?_
    rintro x ⟨a, b, w, o, ks, i, v, rfl⟩
    rcases chg_cases a b w o ks i v with hv | ⟨C, hv, ht, htC, hko, hval⟩
    · unfold eTab at hv ⊢
      (try (simp (disch := first | omega | (simp <;> omega) | fail) only [push_cast, ↓reduceIte, Nat.reduceEqDiff, Nat.reduceAdd, Nat.reduceMul, Nat.reduceSub, Nat.reduceLT, Int.reduceToNat]))
      refine (c_impl_ChangeValue_o a b w i v o ks).fn.call ?_
      rw [hv]
      (try (simp (disch := first | omega | (simp <;> omega) | fail) only [push_cast, ↓reduceIte, Nat.reduceEqDiff, Nat.reduceAdd, Nat.reduceMul, Nat.reduceSub, Nat.reduceLT, Int.reduceToNat]))
      refine (c_spec_ChangeValue a b w i v o ks).call ?_
      rw [hv]
      (try (simp (disch := first | omega | (simp <;> omega) | fail) only [push_cast, ↓reduceIte, Nat.reduceEqDiff, Nat.reduceAdd, Nat.reduceMul, Nat.reduceSub, Nat.reduceLT, Int.reduceToNat]))
      refine (c_laws_rSameTable 0 0 0 none).call ?_
      (try (simp (disch := first | omega | (simp <;> omega) | fail) only [push_cast, ↓reduceIte, Nat.reduceEqDiff, Nat.reduceAdd, Nat.reduceMul, Nat.reduceSub, Nat.reduceLT, Int.reduceToNat]))
    · have hv' := hv
      unfold eTab at hv ⊢
      (try (simp (disch := first | omega | (simp <;> omega) | fail) only [push_cast, ↓reduceIte, Nat.reduceEqDiff, Nat.reduceAdd, Nat.reduceMul, Nat.reduceSub, Nat.reduceLT, Int.reduceToNat]))
      refine (c_impl_ChangeValue_o a b w i v o ks).fn.call ?_
      rw [hv]
      (try (simp (disch := first | omega | (simp <;> omega) | fail) only [push_cast, ↓reduceIte, Nat.reduceEqDiff, Nat.reduceAdd, Nat.reduceMul, Nat.reduceSub, Nat.reduceLT, Int.reduceToNat]))
      refine (c_spec_ChangeValue a b w i v o ks).call ?_
      rw [hv]
      (try (simp (disch := first | omega | (simp <;> omega) | fail) only [push_cast, ↓reduceIte, Nat.reduceEqDiff, Nat.reduceAdd, Nat.reduceMul, Nat.reduceSub, Nat.reduceLT, Int.reduceToNat]))
      refine (c_laws_rSameTable a b w (some C)).call ?_
      (try (simp (disch := first | omega | (simp <;> omega) | fail) only [push_cast, ↓reduceIte, Nat.reduceEqDiff, Nat.reduceAdd, Nat.reduceMul, Nat.reduceSub, Nat.reduceLT, Int.reduceToNat]))
      have hlC : lI (some C) = C := rfl
      have hk40 : ((lS ks).length : Int) ≤ 40 := by
        have h3 := hko
        rw [okKeys, Bool.and_eq_true, decide_eq_true_eq] at h3
        exact h3.2
      refine T_for (lS ks).length (fun k e g' => Pins e [(21, .adr g.length 0), (23, .int .i64 i), (24, .int .i64 v), (25, .adr (g.length + 1) 0), (155, eS ks), (156, .int .i64 (lS ks).length), (157, .int .i64 k)] ∧ g' = g ++ [some (.cells [.int .i64 a, .int .i64 b, .int .i64 w, eI o]), some (.cells [.int .i64 a, .int .i64 b, .int .i64 w, eI (some C)]), some (.cells [.int .i64 a, .int .i64 b, .int .i64 w, eI (some C)])]) ?_ ?_
      · (try (simp (disch := first | omega | (simp <;> omega) | fail) only [push_cast, ↓reduceIte, Nat.reduceEqDiff, Nat.reduceAdd, Nat.reduceMul, Nat.reduceSub, Nat.reduceLT, Int.reduceToNat]))
        all_goals (try rfl)
      rintro k e g' hk ⟨hp, rfl⟩
      refine T_pins hp fun e => ?_
      (try (simp (disch := first | omega | (simp <;> omega) | fail) only [push_cast, ↓reduceIte, Nat.reduceEqDiff, Nat.reduceAdd, Nat.reduceMul, Nat.reduceSub, Nat.reduceLT, Int.reduceToNat]))
      first | refine goC_split (fun hc => ?_) (fun hc => ?_) | refine cnd_split (fun hc => ?_) (fun hc => ?_)
      · (try (simp only [decide_eq_true_eq, decide_eq_false_iff_not, Bool.not_eq_true', Bool.not_eq_false', Bool.and_eq_true, Bool.or_eq_true, Int.not_lt, Int.not_le] at hc)); (try (simp (disch := first | omega | (simp <;> omega) | fail) only [push_cast, ↓reduceIte, Nat.reduceEqDiff, Nat.reduceAdd, Nat.reduceMul, Nat.reduceSub, Nat.reduceLT, Int.reduceToNat]))
        have hk2 : k < (lS ks).length := by omega
        have hkey := okKeys_at hko hk2
        have hvk := hval k hk2
        have hget : ((lS ks).map AV.str)[k]? = some (.str ((lS ks).getD k [])) := by simp [hk2]
        (try (simp (disch := first | omega | (simp <;> omega) | fail) only [push_cast, ↓reduceIte, Nat.reduceEqDiff, Nat.reduceAdd, Nat.reduceMul, Nat.reduceSub, Nat.reduceLT, Int.reduceToNat, hget]))
        refine (c_impl_RetrieveValue a b w o ((lS ks).getD k [])).call ?_
        rw [retV_yes ht hkey]
        (try (simp (disch := first | omega | (simp <;> omega) | fail) only [push_cast, ↓reduceIte, Nat.reduceEqDiff, Nat.reduceAdd, Nat.reduceMul, Nat.reduceSub, Nat.reduceLT, Int.reduceToNat]))
        refine (c_impl_RetrieveValue a b w (some C) ((lS ks).getD k [])).call ?_
        rw [retV_yes htC hkey, hlC, hvk]
        by_cases hki : (k : Int) = i
        · rw [if_pos hki]
          (try (simp (disch := first | omega | (simp <;> omega) | fail) only [push_cast, ↓reduceIte, Nat.reduceEqDiff, Nat.reduceAdd, Nat.reduceMul, Nat.reduceSub, Nat.reduceLT, Int.reduceToNat, hki]))
        · rw [if_neg hki]
          (try (simp (disch := first | omega | (simp <;> omega) | fail) only [push_cast, ↓reduceIte, Nat.reduceEqDiff, Nat.reduceAdd, Nat.reduceMul, Nat.reduceSub, Nat.reduceLT, Int.reduceToNat, hki]))
      · (try (simp only [decide_eq_true_eq, decide_eq_false_iff_not, Bool.not_eq_true', Bool.not_eq_false', Bool.and_eq_true, Bool.or_eq_true, Int.not_lt, Int.not_le] at hc)); (try (simp (disch := first | omega | (simp <;> omega) | fail) only [push_cast, ↓reduceIte, Nat.reduceEqDiff, Nat.reduceAdd, Nat.reduceMul, Nat.reduceSub, Nat.reduceLT, Int.reduceToNat]))
        (try (simp (disch := first | omega | (simp <;> omega) | fail) only [push_cast, ↓reduceIte, Nat.reduceEqDiff, Nat.reduceAdd, Nat.reduceMul, Nat.reduceSub, Nat.reduceLT, Int.reduceToNat]))
  (try (simp (disch := first | omega | (simp <;> omega) | fail) only [push_cast, ↓reduceIte, Nat.reduceEqDiff, Nat.reduceAdd, Nat.reduceMul, Nat.reduceSub, Nat.reduceLT, Int.reduceToNat]))
  refine (c_laws_big code more hl1).call ?_
  cases hb : (decide (1048576 < ((lU code).length : Int)) || decide (1048576 - ((lU code).length : Int) < ((lU more).length : Int)))
  case true =>
    (try (simp (disch := first | omega | (simp <;> omega) | fail) only [push_cast, ↓reduceIte, Nat.reduceEqDiff, Nat.reduceAdd, Nat.reduceMul, Nat.reduceSub, Nat.reduceLT, Int.reduceToNat]))
  (try (simp (disch := first | omega | (simp <;> omega) | fail) only [push_cast, ↓reduceIte, Nat.reduceEqDiff, Nat.reduceAdd, Nat.reduceMul, Nat.reduceSub, Nat.reduceLT, Int.reduceToNat]))
  refine (c_spec_DrawAddTables code).use ?_
  rintro x ⟨a, b, w, o, a2, b2, w2, o2, rfl⟩
  cases hok2 : addOk a b w o a2 b2 w2 o2
  · have hv : addV a b w o a2 b2 w2 o2 = .tup [eTab 0 0 0 none, .bool false] := by unfold addV; rw [hok2]; rfl
    unfold eTab at hv ⊢
    (try (simp (disch := first | omega | (simp <;> omega) | fail) only [push_cast, ↓reduceIte, Nat.reduceEqDiff, Nat.reduceAdd, Nat.reduceMul, Nat.reduceSub, Nat.reduceLT, Int.reduceToNat]))
    refine (c_impl_AddTables a b w a2 b2 w2 o o2).call ?_
    rw [hv]
    (try (simp (disch := first | omega | (simp <;> omega) | fail) only [push_cast, ↓reduceIte, Nat.reduceEqDiff, Nat.reduceAdd, Nat.reduceMul, Nat.reduceSub, Nat.reduceLT, Int.reduceToNat]))
    refine (c_spec_AddTables a b w a2 b2 w2 o o2).call ?_
    rw [hv]
    (try (simp (disch := first | omega | (simp <;> omega) | fail) only [push_cast, ↓reduceIte, Nat.reduceEqDiff, Nat.reduceAdd, Nat.reduceMul, Nat.reduceSub, Nat.reduceLT, Int.reduceToNat]))
    refine (c_laws_rSameTable 0 0 0 none).call ?_
    (try (simp (disch := first | omega | (simp <;> omega) | fail) only [push_cast, ↓reduceIte, Nat.reduceEqDiff, Nat.reduceAdd, Nat.reduceMul, Nat.reduceSub, Nat.reduceLT, Int.reduceToNat]))
    refine (c_spec_DrawRetrieveValue more).use ?_
    rintro x ⟨ra, rb, rw', ro, key, rfl⟩
    unfold eTab
    obtain ⟨m1, q1, e1⟩ := retV_tup a b w o key
    obtain ⟨m2, q2, e2⟩ := retV_tup a2 b2 w2 o2 key
    obtain ⟨m3, q3, e3⟩ := retV_tup 0 0 0 none key
    (try (simp (disch := first | omega | (simp <;> omega) | fail) only [push_cast, ↓reduceIte, Nat.reduceEqDiff, Nat.reduceAdd, Nat.reduceMul, Nat.reduceSub, Nat.reduceLT, Int.reduceToNat]))
    refine (c_impl_RetrieveValue a b w o key).call ?_
    rw [e1]
    (try (simp (disch := first | omega | (simp <;> omega) | fail) only [push_cast, ↓reduceIte, Nat.reduceEqDiff, Nat.reduceAdd, Nat.reduceMul, Nat.reduceSub, Nat.reduceLT, Int.reduceToNat]))
    refine (c_impl_RetrieveValue a2 b2 w2 o2 key).call ?_
    rw [e2]
    (try (simp (disch := first | omega | (simp <;> omega) | fail) only [push_cast, ↓reduceIte, Nat.reduceEqDiff, Nat.reduceAdd, Nat.reduceMul, Nat.reduceSub, Nat.reduceLT, Int.reduceToNat]))
    refine (c_impl_RetrieveValue 0 0 0 none key).call ?_
    rw [e3]
    (try (simp (disch := first | omega | (simp <;> omega) | fail) only [push_cast, ↓reduceIte, Nat.reduceEqDiff, Nat.reduceAdd, Nat.reduceMul, Nat.reduceSub, Nat.reduceLT, Int.reduceToNat]))
    refine (c_spec_RetrieveValue a b w o key).call ?_
    rw [e1]
    (try (simp (disch := first | omega | (simp <;> omega) | fail) only [push_cast, ↓reduceIte, Nat.reduceEqDiff, Nat.reduceAdd, Nat.reduceMul, Nat.reduceSub, Nat.reduceLT, Int.reduceToNat]))
    exact tail _ _ (by simp) ⟨rfl, trivial⟩
  · obtain ⟨rfl, rfl, rfl, t1, t2, t3⟩ := add_ok hok2
    have hv : addV a b w o a b w o2 = .tup [eTab a b w (some (addT (lI o) (lI o2))), .bool true] := by unfold addV; rw [hok2]; rfl
    unfold eTab at hv ⊢
    (try (simp (disch := first | omega | (simp <;> omega) | fail) only [push_cast, ↓reduceIte, Nat.reduceEqDiff, Nat.reduceAdd, Nat.reduceMul, Nat.reduceSub, Nat.reduceLT, Int.reduceToNat]))
    refine (c_impl_AddTables a b w a b w o o2).call ?_
    rw [hv]
    (try (simp (disch := first | omega | (simp <;> omega) | fail) only [push_cast, ↓reduceIte, Nat.reduceEqDiff, Nat.reduceAdd, Nat.reduceMul, Nat.reduceSub, Nat.reduceLT, Int.reduceToNat]))
    refine (c_spec_AddTables a b w a b w o o2).call ?_
    rw [hv]
    (try (simp (disch := first | omega | (simp <;> omega) | fail) only [push_cast, ↓reduceIte, Nat.reduceEqDiff, Nat.reduceAdd, Nat.reduceMul, Nat.reduceSub, Nat.reduceLT, Int.reduceToNat]))
    refine (c_laws_rSameTable a b w (some (addT (lI o) (lI o2)))).call ?_
    (try (simp (disch := first | omega | (simp <;> omega) | fail) only [push_cast, ↓reduceIte, Nat.reduceEqDiff, Nat.reduceAdd, Nat.reduceMul, Nat.reduceSub, Nat.reduceLT, Int.reduceToNat]))
    refine (c_spec_DrawRetrieveValue more).use ?_
    rintro x ⟨ra, rb, rw', ro, key, rfl⟩
    unfold eTab
    cases hkey : okKey key
    · have e1 := fun l => retV_no (a := a) (b := b) (w := w) (l := l) hkey
      (try (simp (disch := first | omega | (simp <;> omega) | fail) only [push_cast, ↓reduceIte, Nat.reduceEqDiff, Nat.reduceAdd, Nat.reduceMul, Nat.reduceSub, Nat.reduceLT, Int.reduceToNat]))
      refine (c_impl_RetrieveValue a b w o key).call ?_
      rw [e1]
      (try (simp (disch := first | omega | (simp <;> omega) | fail) only [push_cast, ↓reduceIte, Nat.reduceEqDiff, Nat.reduceAdd, Nat.reduceMul, Nat.reduceSub, Nat.reduceLT, Int.reduceToNat]))
      refine (c_impl_RetrieveValue a b w o2 key).call ?_
      rw [e1]
      (try (simp (disch := first | omega | (simp <;> omega) | fail) only [push_cast, ↓reduceIte, Nat.reduceEqDiff, Nat.reduceAdd, Nat.reduceMul, Nat.reduceSub, Nat.reduceLT, Int.reduceToNat]))
      refine (c_impl_RetrieveValue a b w (some (addT (lI o) (lI o2))) key).call ?_
      rw [e1]
      (try (simp (disch := first | omega | (simp <;> omega) | fail) only [push_cast, ↓reduceIte, Nat.reduceEqDiff, Nat.reduceAdd, Nat.reduceMul, Nat.reduceSub, Nat.reduceLT, Int.reduceToNat]))
      refine (c_spec_RetrieveValue a b w o key).call ?_
      rw [e1]
      (try (simp (disch := first | omega | (simp <;> omega) | fail) only [push_cast, ↓reduceIte, Nat.reduceEqDiff, Nat.reduceAdd, Nat.reduceMul, Nat.reduceSub, Nat.reduceLT, Int.reduceToNat]))
      exact tail _ _ (by simp) ⟨rfl, trivial⟩
    · have F := tbl_facts t1
      have F2 := tbl_facts t2
      have hw := pow_le256 (w := w.toNat) (by have := F.w1; omega)
      have b1 := F.val_lt key
      have b2 := F2.val_lt key
      have hx := bitsI_xor (x := valT a b (lI o) key) (y := valT a b (lI o2) key) (by omega) (by omega)
      have hsum := val_add (seed := a) (m := lI o2) (key := key) F.g0 F.ll
      rw [← hsum] at hx
      (try (simp (disch := first | omega | (simp <;> omega) | fail) only [push_cast, ↓reduceIte, Nat.reduceEqDiff, Nat.reduceAdd, Nat.reduceMul, Nat.reduceSub, Nat.reduceLT, Int.reduceToNat]))
      refine (c_impl_RetrieveValue a b w o key).call ?_
      rw [retV_yes t1 hkey]
      (try (simp (disch := first | omega | (simp <;> omega) | fail) only [push_cast, ↓reduceIte, Nat.reduceEqDiff, Nat.reduceAdd, Nat.reduceMul, Nat.reduceSub, Nat.reduceLT, Int.reduceToNat]))
      refine (c_impl_RetrieveValue a b w o2 key).call ?_
      rw [retV_yes t2 hkey]
      (try (simp (disch := first | omega | (simp <;> omega) | fail) only [push_cast, ↓reduceIte, Nat.reduceEqDiff, Nat.reduceAdd, Nat.reduceMul, Nat.reduceSub, Nat.reduceLT, Int.reduceToNat]))
      refine (c_impl_RetrieveValue a b w (some (addT (lI o) (lI o2))) key).call ?_
      rw [retV_yes t3 hkey]
      (try (simp (disch := first | omega | (simp <;> omega) | fail) only [push_cast, ↓reduceIte, Nat.reduceEqDiff, Nat.reduceAdd, Nat.reduceMul, Nat.reduceSub, Nat.reduceLT, Int.reduceToNat]))
      refine (c_spec_RetrieveValue a b w o key).call ?_
      rw [retV_yes t1 hkey]
      have hlI : lI (some (addT (lI o) (lI o2))) = addT (lI o) (lI o2) := rfl
      rw [hlI]
      (try (simp (disch := first | omega | (simp <;> omega) | fail) only [push_cast, ↓reduceIte, Nat.reduceEqDiff, Nat.reduceAdd, Nat.reduceMul, Nat.reduceSub, Nat.reduceLT, Int.reduceToNat, hx]))
      exact tail _ _ (by simp) ⟨rfl, trivial⟩

end Go.Proofs.YtjfgmimgmapeeaaGreat.M
