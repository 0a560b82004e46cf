/-
  What the functions return.
-/
import Derived.Test.YtdkgoaiodjokpaaGreatFd
import Derived.Test.YtdkgoaiodjokpaaGreatCc
namespace Go.Proofs.YtdkgoaiodjokpaaGreat.M
open Go Go.RowKit
set_option linter.unusedVariables false
set_option linter.unusedSimpArgs false
set_option maxRecDepth 4000

theorem c_impl_FrontHas (b : Nat) (K : List Str) (s : Str) (hK : okKeys K = true) (hb : 1 ≤ b) (hb2 : b ≤ 16) : Fn Tryz.prog 13 [eFr b K, .str s] (· = .tup [.bool (decide (s ∈ K)), .bool true]) := by
  refine Fn.of (free_tup (free_cons_ free_bool (free_cons_ free_bool free_nil_))) fun h => ?_
  refine enter (by kernel_rfl) e13 (by kernel_rfl) rfl fun hok => ?_
  simp only [r13, initEnv_2]
  have hk := c_impl_Front_keys_o b K hK hb hb2
  have hfc := @free_cFr b K
  have hcb0 : H.cells (h ++ [some (.cells (cFr b K))]) h.length = some (cFr b K) := by rw [cells_h0]; rfl
  have hcn := c_slices_Contains_string (some K) s
  have e : eFr b K = .agg (cFr b K) := rfl
  rw [e]
  clear e
  have hcs : cellsOf (.agg (cFr b K)) = cFr b K := rfl
  have hone := @one_cFr b K
  (try (simp (disch := first | omega | (simp <;> omega) | fail) only [push_cast, ↓reduceIte, Nat.reduceEqDiff, Nat.reduceAdd, Nat.reduceMul, Nat.reduceSub, Nat.reduceLT, Int.reduceToNat, hcs, hone]))
  refine hk.goL (.adr hcb0 hfc .nil) fun x t' g hR hx how => ?_
  subst hR
  obtain ⟨y, rfl, hy⟩ := ow_tup2 rfl how
  (try (simp (disch := first | omega | (simp <;> omega) | fail) only [push_cast, ↓reduceIte, Nat.reduceEqDiff, Nat.reduceAdd, Nat.reduceMul, Nat.reduceSub, Nat.reduceLT, Int.reduceToNat]))
  refine hcn.lendL (.cons hy.vw0 (.free free_str .nil)) own_bool ?_
  (try (simp (disch := first | omega | (simp <;> omega) | fail) only [push_cast, ↓reduceIte, Nat.reduceEqDiff, Nat.reduceAdd, Nat.reduceMul, Nat.reduceSub, Nat.reduceLT, Int.reduceToNat]))
  all_goals (try rfl)

theorem c_cmp_isNaN_string (a : Str) : Fn Tryz.prog 142 [.str a] (· = .bool false) := by
  refine Fn.of free_bool fun h => ?_
  refine enter (by kernel_rfl) e142 (by kernel_rfl) rfl fun hok => ?_
  simp only [r142, initEnv_1]
  (try (simp (disch := first | omega | (simp <;> omega) | fail) only [push_cast, ↓reduceIte, Nat.reduceEqDiff, Nat.reduceAdd, Nat.reduceMul, Nat.reduceSub, Nat.reduceLT, Int.reduceToNat]))

theorem c_cmp_Less_string (a b : Str) : Fn Tryz.prog 96 [.str a, .str b] (· = .bool (Op.bytesLess a b)) := by
  refine Fn.of free_bool fun h => ?_
  refine enter (by kernel_rfl) e96 (by kernel_rfl) rfl fun hok => ?_
  simp only [r96, initEnv_2]
  (try (simp (disch := first | omega | (simp <;> omega) | fail) only [push_cast, ↓reduceIte, Nat.reduceEqDiff, Nat.reduceAdd, Nat.reduceMul, Nat.reduceSub, Nat.reduceLT, Int.reduceToNat]))
  refine (c_cmp_isNaN_string a).call ?_
  cases hb : Op.bytesLess a b
  · (try (simp (disch := first | omega | (simp <;> omega) | fail) only [push_cast, ↓reduceIte, Nat.reduceEqDiff, Nat.reduceAdd, Nat.reduceMul, Nat.reduceSub, Nat.reduceLT, Int.reduceToNat, hb]))
    done
  · (try (simp (disch := first | omega | (simp <;> omega) | fail) only [push_cast, ↓reduceIte, Nat.reduceEqDiff, Nat.reduceAdd, Nat.reduceMul, Nat.reduceSub, Nat.reduceLT, Int.reduceToNat, hb]))
    done

theorem c_slices_isNaN_string (a : Str) : Fn Tryz.prog 97 [.str a] (· = .bool false) := by
  refine Fn.of free_bool fun h => ?_
  refine enter (by kernel_rfl) e97 (by kernel_rfl) rfl fun hok => ?_
  simp only [r97, initEnv_1]
  (try (simp (disch := first | omega | (simp <;> omega) | fail) only [push_cast, ↓reduceIte, Nat.reduceEqDiff, Nat.reduceAdd, Nat.reduceMul, Nat.reduceSub, Nat.reduceLT, Int.reduceToNat]))

theorem c_slices_BinarySearch_string (o : Option (List Str)) (s : Str) (hp : (lS o).Pairwise slt) (hl : (lS o).length ≤ 1000000) : Fn Tryz.prog 46 [eS o, .str s] (fun v => ∃ b, v = .tup [.int .i64 (rkS (lS o) s), .bool b]) := by
  refine Fn.froze_ fun h => ?_
  refine enter (by kernel_rfl) e46 (by kernel_rfl) rfl fun hok => ?_
  simp only [r46, initEnv_2]
  have hlo := fun i j => @slt_lo (lS o) hp s i j
  have hhi := fun i j => @slt_hi (lS o) hp s i j
  have hrk := fun i => @rk_at (lS o) s i
  have w : ∀ z : Int, 0 ≤ z → z ≤ 4294967295 → IntKind.u64.wrap z = z := fun z h0 h1 => by
    rw [IntKind.wrap_u64]
    omega
  have w2 : ∀ z : Int, 0 ≤ z → z ≤ 4294967295 → IntKind.i64.wrap z = z := fun z h0 h1 => wrap_ok (by omega) (by omega)
  (try (simp (disch := first | omega | (simp <;> omega) | fail) only [push_cast, ↓reduceIte, Nat.reduceEqDiff, Nat.reduceAdd, Nat.reduceMul, Nat.reduceSub, Nat.reduceLT, Int.reduceToNat]))
  refine T_for (lS o).length (fun k e h' => ∃ i j : Nat, Pins e [(0, eS o), (1, .str s), (6, .int .i64 (lS o).length), (7, .int .i64 i), (8, .int .i64 j)] ∧ h' = h ∧ (i ≤ j ∧ j ≤ (lS o).length ∧ j - i + k ≤ (lS o).length) ∧ (∀ q, q < i → Op.bytesLess ((lS o).getD q []) s = true) ∧ ∀ q, j ≤ q → q < (lS o).length → Op.bytesLess ((lS o).getD q []) s = false) ?_ ?_
  · refine ⟨0, (lS o).length, ?_⟩
    (try (simp (disch := first | omega | (simp <;> omega) | fail) only [push_cast, ↓reduceIte, Nat.reduceEqDiff, Nat.reduceAdd, Nat.reduceMul, Nat.reduceSub, Nat.reduceLT, Int.reduceToNat]))
    all_goals (try exact ⟨fun q hq => by omega, fun q h1 h2 => by omega⟩)
    done
  rintro k e h' hk ⟨i, j, hp2, rfl, ⟨hij, hjl, hjk⟩, hA, hB⟩
  refine T_pins hp2 fun e => ?_
  (try (simp (disch := first | omega | (simp <;> omega) | fail) only [push_cast, ↓reduceIte, Nat.reduceEqDiff, Nat.reduceAdd, Nat.reduceMul, Nat.reduceSub, Nat.reduceLT, Int.reduceToNat]))
  first | refine goC_split (fun hc => ?_) (fun hc => ?_) | refine cnd_split (fun hc => ?_) (fun hc => ?_)
  · (try (simp only [decide_eq_true_eq, decide_eq_false_iff_not, Bool.not_eq_true', Bool.not_eq_false', Bool.and_eq_true, Bool.or_eq_true, Int.not_lt, Int.not_le] at hc)); (try (simp (disch := first | omega | (simp <;> omega) | fail) only [push_cast, ↓reduceIte, Nat.reduceEqDiff, Nat.reduceAdd, Nat.reduceMul, Nat.reduceSub, Nat.reduceLT, Int.reduceToNat]))
    have hij2 : i < j := by omega
    obtain ⟨m, hm⟩ : ∃ m : Nat, m = (i + j) / 2 := ⟨_, rfl⟩
    have hm1 : i ≤ m ∧ m < j := by omega
    have e1 := w ((i : Int) + j) (by omega) (by omega)
    have e2 : ((i : Int) + j).fdiv (2 ^ min 1 IntKind.u64.bits) = (m : Int) := by
      rw [show (2 : Int) ^ min 1 IntKind.u64.bits = 2 by decide, Int.fdiv_eq_ediv_of_nonneg _ (by decide)]
      omega
    have e3 := w2 (m : Int) (by omega) (by omega)
    have hmd : m < (lS o).length := by omega
    obtain ⟨y, hy⟩ : ∃ y, y = (lS o).getD m [] := ⟨_, rfl⟩
    (try (simp (disch := first | omega | (simp <;> omega) | fail) only [push_cast, ↓reduceIte, Nat.reduceEqDiff, Nat.reduceAdd, Nat.reduceMul, Nat.reduceSub, Nat.reduceLT, Int.reduceToNat, e1, e2, e3, ← hy]))
    refine (c_cmp_Less_string y s).call ?_
    cases hb : Op.bytesLess y s
    · have hB2 : ∀ q, m ≤ q → q < (lS o).length → Op.bytesLess ((lS o).getD q []) s = false := fun q h1 h2 => hhi m q h1 h2 (by rw [← hy]; exact hb)
      (try (simp (disch := first | omega | (simp <;> omega) | fail) only [push_cast, ↓reduceIte, Nat.reduceEqDiff, Nat.reduceAdd, Nat.reduceMul, Nat.reduceSub, Nat.reduceLT, Int.reduceToNat]))
      all_goals (try exact ⟨i, m, ⟨rfl, rfl⟩, by omega, hA, hB2⟩)
      done
    · have hA2 : ∀ q, q < m + 1 → Op.bytesLess ((lS o).getD q []) s = true := fun q h1 => hlo m q (by omega) hmd (by rw [← hy]; exact hb)
      (try (simp (disch := first | omega | (simp <;> omega) | fail) only [push_cast, ↓reduceIte, Nat.reduceEqDiff, Nat.reduceAdd, Nat.reduceMul, Nat.reduceSub, Nat.reduceLT, Int.reduceToNat]))
      all_goals (try exact ⟨m + 1, j, ⟨by simp, rfl⟩, by omega, hA2, hB⟩)
      done
  · (try (simp only [decide_eq_true_eq, decide_eq_false_iff_not, Bool.not_eq_true', Bool.not_eq_false', Bool.and_eq_true, Bool.or_eq_true, Int.not_lt, Int.not_le] at hc)); (try (simp (disch := first | omega | (simp <;> omega) | fail) only [push_cast, ↓reduceIte, Nat.reduceEqDiff, Nat.reduceAdd, Nat.reduceMul, Nat.reduceSub, Nat.reduceLT, Int.reduceToNat]))
    have hij2 : i = j := by omega
    subst hij2
    have hr := hrk i hjl hA hB
    have hfin : ∀ (hh : H) (b : Bool), ∃ t, Vw hh h'.length (.tup [.int .i64 i, .bool b]) t ∧ ∃ b, t = .tup [.int .i64 (rkS (lS o) s), .bool b] := fun hh b => ⟨_, .free (free_tup (free_cons_ free_int (free_cons_ free_bool free_nil_))), b, by rw [hr]⟩
    by_cases hil : i < (lS o).length
    · have hd : ((i : Int) < ((lS o).length : Int)) = True := by simp; omega
      obtain ⟨y, hy⟩ : ∃ y, y = (lS o).getD i [] := ⟨_, rfl⟩
      by_cases hys : y = s
      · (try (simp (disch := first | omega | (simp <;> omega) | fail) only [push_cast, ↓reduceIte, Nat.reduceEqDiff, Nat.reduceAdd, Nat.reduceMul, Nat.reduceSub, Nat.reduceLT, Int.reduceToNat, hd, ← hy, hys]))
        all_goals (try exact hfin _ _)
        done
      · (try (simp (disch := first | omega | (simp <;> omega) | fail) only [push_cast, ↓reduceIte, Nat.reduceEqDiff, Nat.reduceAdd, Nat.reduceMul, Nat.reduceSub, Nat.reduceLT, Int.reduceToNat, hd, ← hy, hys]))
        refine (c_slices_isNaN_string _).call ?_
        (try (simp (disch := first | omega | (simp <;> omega) | fail) only [push_cast, ↓reduceIte, Nat.reduceEqDiff, Nat.reduceAdd, Nat.reduceMul, Nat.reduceSub, Nat.reduceLT, Int.reduceToNat]))
        all_goals (try exact hfin _ _)
        done
    · have hd : ((i : Int) < ((lS o).length : Int)) = False := by simp; omega
      (try (simp (disch := first | omega | (simp <;> omega) | fail) only [push_cast, ↓reduceIte, Nat.reduceEqDiff, Nat.reduceAdd, Nat.reduceMul, Nat.reduceSub, Nat.reduceLT, Int.reduceToNat, hd]))
      all_goals (try exact hfin _ _)
      done

theorem c_impl_FrontRank (b : Nat) (K : List Str) (s : Str) (hK : okKeys K = true) (hb : 1 ≤ b) (hb2 : b ≤ 16) : Fn Tryz.prog 15 [eFr b K, .str s] (· = .tup [.int .i64 (rkS K s), .bool true]) := by
  refine Fn.of (free_tup (free_cons_ free_int (free_cons_ free_bool free_nil_))) fun h => ?_
  refine enter (by kernel_rfl) e15 (by kernel_rfl) rfl fun hok => ?_
  simp only [r15, initEnv_2]
  have hk := c_impl_Front_keys_o b K hK hb hb2
  have hfc := @free_cFr b K
  have hKA := okKeys_all hK
  have hcb0 : H.cells (h ++ [some (.cells (cFr b K))]) h.length = some (cFr b K) := by rw [cells_h0]; rfl
  have hb2 := c_slices_BinarySearch_string (some K) s hKA.2.1 (by show K.length ≤ _; omega)
  have e : eFr b K = .agg (cFr b K) := rfl
  rw [e]
  clear e
  have hcs : cellsOf (.agg (cFr b K)) = cFr b K := rfl
  have hone := @one_cFr b K
  (try (simp (disch := first | omega | (simp <;> omega) | fail) only [push_cast, ↓reduceIte, Nat.reduceEqDiff, Nat.reduceAdd, Nat.reduceMul, Nat.reduceSub, Nat.reduceLT, Int.reduceToNat, hcs, hone]))
  refine hk.goL (.adr hcb0 hfc .nil) fun x t' g hR hx how => ?_
  subst hR
  obtain ⟨y, rfl, hy⟩ := ow_tup2 rfl how
  have hlend : Lend g [y, .str s] [eS (some K), .str s] := .cons hy.vw0 (.free free_str .nil)
  (try (simp (disch := first | omega | (simp <;> omega) | fail) only [push_cast, ↓reduceIte, Nat.reduceEqDiff, Nat.reduceAdd, Nat.reduceMul, Nat.reduceSub, Nat.reduceLT, Int.reduceToNat]))
  refine hb2.lend hlend.len hlend.get (fun z hz => ?_) (fun z hz => ?_)
  · obtain ⟨q, rfl⟩ := hz
    exact own_tup (own_cons_ own_int (own_cons_ own_bool own_nil_))
  · obtain ⟨q, rfl⟩ := hz
    (try (simp (disch := first | omega | (simp <;> omega) | fail) only [push_cast, ↓reduceIte, Nat.reduceEqDiff, Nat.reduceAdd, Nat.reduceMul, Nat.reduceSub, Nat.reduceLT, Int.reduceToNat]))
    all_goals (try rfl)

theorem c_impl_FrontKey (b : Nat) (K : List Str) (i : Nat) (hK : okKeys K = true) (hb : 1 ≤ b) (hb2 : b ≤ 16) (hi : i < K.length) : Fn Tryz.prog 19 [eFr b K, .int .i64 i] (· = .tup [.str (K.getD i []), .bool true]) := by
  refine Fn.of (free_tup (free_cons_ free_str (free_cons_ free_bool free_nil_))) fun h => ?_
  refine enter (by kernel_rfl) e19 (by kernel_rfl) rfl fun hok => ?_
  simp only [r19, initEnv_2]
  have hk := c_impl_Front_keys_o b K hK hb hb2
  have hfc := @free_cFr b K
  have hKA := okKeys_all hK
  have hcb0 : H.cells (h ++ [some (.cells (cFr b K))]) h.length = some (cFr b K) := by rw [cells_h0]; rfl
  have e : eFr b K = .agg (cFr b K) := rfl
  rw [e]
  clear e
  have hcs : cellsOf (.agg (cFr b K)) = cFr b K := rfl
  have hone := @one_cFr b K
  (try (simp (disch := first | omega | (simp <;> omega) | fail) only [push_cast, ↓reduceIte, Nat.reduceEqDiff, Nat.reduceAdd, Nat.reduceMul, Nat.reduceSub, Nat.reduceLT, Int.reduceToNat, hcs, hone]))
  refine hk.goL (.adr hcb0 hfc .nil) fun x t' g hR hx how => ?_
  subst hR
  obtain ⟨y, rfl, hy⟩ := ow_tup2 rfl how
  obtain ⟨bb, rfl, hbb, hcb⟩ := ow_strs hy
  have hcb2 := cells_lt hcb
  have hgt : (K.map AV.str)[i]? = some (.str (K.getD i [])) := get_S hi
  (try (simp (disch := first | omega | (simp <;> omega) | fail) only [push_cast, ↓reduceIte, Nat.reduceEqDiff, Nat.reduceAdd, Nat.reduceMul, Nat.reduceSub, Nat.reduceLT, Int.reduceToNat]))
  refine (c_impl_in (i : Int) 0 ((K.length : Int) - 1)).call ?_
  have hin : (decide ((0 : Int) ≤ (i : Int)) && decide ((i : Int) ≤ (K.length : Int) - 1)) = true := by simp; omega
  rw [hin]
  (try (simp (disch := first | omega | (simp <;> omega) | fail) only [push_cast, ↓reduceIte, Nat.reduceEqDiff, Nat.reduceAdd, Nat.reduceMul, Nat.reduceSub, Nat.reduceLT, Int.reduceToNat, hcb, hgt]))
  all_goals (try rfl)

theorem c_impl_Trie_keys_o (t : Tr) : FnO Tryz.prog 43 [.rad (cTr t) 0] (KyR t fun _ => true) := by
  intro h
  refine enter (by kernel_rfl) e43 (by kernel_rfl) rfl fun hok => ?_
  simp only [r43, initEnv_1]
  have hn := c_impl_Trie_nodes_o t
  have hE := c_impl_Trie_ends_o t
  have hkk := fun K => @trV_ok t K
  have hI := fun K => @trV_some t K
  have hky := fun o b => @KyR_all t o b
  have hnv : noV t = match trV t with | some K => eS (some (nodesK K)) | none => .nils := rfl
  have hfc := @free_cTr t
  rw [hnv] at hn
  clear hnv
  cases hv : trV t with
  | none =>
    rw [hv] at hn
    simp only at hn
    have hno : ∀ hh : H, ∃ t', Ow hh [.tup [.nils, .bool false]] [t'] (fun c => h.length ≤ c) ∧ KyR t (fun _ => true) t' := fun hh => ⟨_, ow_tup2_of rfl (.atom rfl .nil), hky none false (.inr ⟨rfl, hv, rfl⟩)⟩
    obtain ⟨⟨ss, sw⟩, ⟨es, ew⟩, lab⟩ := t
    (try (simp (disch := first | omega | (simp <;> omega) | fail) only [push_cast, ↓reduceIte, Nat.reduceEqDiff, Nat.reduceAdd, Nat.reduceMul, Nat.reduceSub, Nat.reduceLT, Int.reduceToNat]))
    refine hn.go fun x t' g hR hx how => ?_
    subst hR
    have hxn : x = .nils := how.atomOf rfl
    subst hxn
    (try (simp (disch := first | omega | (simp <;> omega) | fail) only [push_cast, ↓reduceIte, Nat.reduceEqDiff, Nat.reduceAdd, Nat.reduceMul, Nat.reduceSub, Nat.reduceLT, Int.reduceToNat]))
    all_goals (try exact hno _)
    done
  | some K =>
    rw [hv] at hn
    simp only at hn
    have hIK := hI K hv
    have hN1 := nodesK_cap (hkk K hv).2
    have hE2 := hE (some (nodesK K)) hIK.words (by show (nodesK K).length ≤ 5000; omega)
    have hek := fun L => @ends_keys t K L hIK
    have hyes : ∀ (hh : H) (x : AV), Ow hh [x] [eS (some K)] (fun c => h.length ≤ c) → ∃ t', Ow hh [.tup [x, .bool true]] [t'] (fun c => h.length ≤ c) ∧ KyR t (fun _ => true) t' := fun hh x hx => ⟨_, ow_tup2_of rfl hx, hky (some K) true (.inl ⟨rfl, hv⟩)⟩
    obtain ⟨⟨ss, sw⟩, ⟨es, ew⟩, lab⟩ := t
    (try (simp (disch := first | omega | (simp <;> omega) | fail) only [push_cast, ↓reduceIte, Nat.reduceEqDiff, Nat.reduceAdd, Nat.reduceMul, Nat.reduceSub, Nat.reduceLT, Int.reduceToNat]))
    refine hn.go fun x t' g hR hx how => ?_
    subst hR
    obtain ⟨b, rfl, hb0, hcb⟩ := ow_strs how
    (try (simp (disch := first | omega | (simp <;> omega) | fail) only [push_cast, ↓reduceIte, Nat.reduceEqDiff, Nat.reduceAdd, Nat.reduceMul, Nat.reduceSub, Nat.reduceLT, Int.reduceToNat]))
    refine hE2.goL (.free (free_radT hfc) (.cons (vw_all (Nat.zero_le _) hcb (by simp) (one_map fun _ => rfl) (free_map_ fun _ => free_str)) .nil)) fun x t' g2 hR hx2 how2 => ?_
    obtain ⟨L, rfl, p1, p2⟩ := hR
    have hLK : L = K := hek L p1 p2
    subst hLK
    have hl1 := hx.len
    have hf := hyes g2 x (how2.mono fun c hc => by have := hc.1; omega)
    (try (simp (disch := first | omega | (simp <;> omega) | fail) only [push_cast, ↓reduceIte, Nat.reduceEqDiff, Nat.reduceAdd, Nat.reduceMul, Nat.reduceSub, Nat.reduceLT, Int.reduceToNat]))
    all_goals (try exact hf)
    done

set_option maxHeartbeats 4000000 in
theorem c_impl_LongestKey (t : Tr) (K : List Str) (s : Str) (hs : s.length ≤ 1000) (ht : trV t = some K) (hK : okKeys K = true) : Fn Tryz.prog 17 [eTr t, .str s] (· = .tup [.str (lgS s K), .bool (decide (lgS s K ≠ []))]) := by
  refine Fn.of (free_tup (free_cons_ free_str (free_cons_ free_bool free_nil_))) fun h => ?_
  refine enter (by kernel_rfl) e17 (by kernel_rfl) rfl fun hok => ?_
  simp only [r17, initEnv_2]
  have hk := c_impl_Trie_keys_o t
  have hfc := @free_cTr t
  have hKA := okKeys_all hK
  have hcb0 : H.cells (h ++ [some (.cells (cTr t))]) h.length = some (cTr t) := by rw [cells_h0]; rfl
  have hg : ∀ v, KyR t (fun _ => true) v → ∃ o, v = .tup [eS o, .bool true] ∧ lS o = K := fun v hv => by
    obtain ⟨o, b, rfl, h7⟩ := KyR_get hv
    rw [ht] at h7
    rcases h7 with ⟨rfl, h8⟩ | ⟨_, h8, _⟩
    · injection h8 with h8
      exact ⟨o, rfl, h8.symm⟩
    · cases h8
  obtain ⟨⟨ss, sw⟩, ⟨es, ew⟩, lab⟩ := t
  (try (simp (disch := first | omega | (simp <;> omega) | fail) only [push_cast, ↓reduceIte, Nat.reduceEqDiff, Nat.reduceAdd, Nat.reduceMul, Nat.reduceSub, Nat.reduceLT, Int.reduceToNat]))
  refine hk.goL (.adr hcb0 hfc .nil) fun x t' g hR hx how => ?_
  obtain ⟨o, rfl, hoK⟩ := hg _ hR
  obtain ⟨y, rfl, hy⟩ := ow_tup2 rfl how
  obtain ⟨bb, hbb⟩ : ∃ bb, (o = none ∧ y = .nils) ∨ (o = some K ∧ y = .sl bb 0 1 K.length K.length ∧ g.cells bb = some (K.map .str)) := by
    cases o with
    | none => exact ⟨0, .inl ⟨rfl, hy.atomOf rfl⟩⟩
    | some L =>
      have hLK : L = K := hoK
      subst hLK
      obtain ⟨bb, rfl, _, hcb⟩ := ow_strs hy
      exact ⟨bb, .inr ⟨rfl, rfl, hcb⟩⟩
  have hyl : lenA y = some (.int .i64 K.length) := by
    rcases hbb with ⟨rfl, rfl⟩ | ⟨rfl, rfl, _⟩
    · rw [← hoK]; rfl
    · rfl
  (try (simp (disch := first | omega | (simp <;> omega) | fail) only [push_cast, ↓reduceIte, Nat.reduceEqDiff, Nat.reduceAdd, Nat.reduceMul, Nat.reduceSub, Nat.reduceLT, Int.reduceToNat, hyl]))
  refine T_for K.length (fun k e h' => Pins e [(1, .str s), (8, .str (lgS s (K.take k))), (15, y), (16, .int .i64 K.length), (17, .int .i64 k)] ∧ h' = g) ?_ ?_
  · (try (simp (disch := first | omega | (simp <;> omega) | fail) only [push_cast, ↓reduceIte, Nat.reduceEqDiff, Nat.reduceAdd, Nat.reduceMul, Nat.reduceSub, Nat.reduceLT, Int.reduceToNat]))
    all_goals (try exact rfl)
    done
  rintro k e h' hk2 ⟨hp, rfl⟩
  refine T_pins hp fun e => ?_
  (try (simp (disch := first | omega | (simp <;> omega) | fail) only [push_cast, ↓reduceIte, Nat.reduceEqDiff, Nat.reduceAdd, Nat.reduceMul, Nat.reduceSub, Nat.reduceLT, Int.reduceToNat]))
  first | refine goC_split (fun hc => ?_) (fun hc => ?_) | refine cnd_split (fun hc => ?_) (fun hc => ?_)
  · (try (simp only [decide_eq_true_eq, decide_eq_false_iff_not, Bool.not_eq_true', Bool.not_eq_false', Bool.and_eq_true, Bool.or_eq_true, Int.not_lt, Int.not_le] at hc)); (try (simp (disch := first | omega | (simp <;> omega) | fail) only [push_cast, ↓reduceIte, Nat.reduceEqDiff, Nat.reduceAdd, Nat.reduceMul, Nat.reduceSub, Nat.reduceLT, Int.reduceToNat]))
    have hk3 : k < K.length := by omega
    obtain ⟨x, hxd⟩ : ∃ x, x = K.getD k [] := ⟨_, rfl⟩
    have hxl : x.length ≤ 12 := (okKey_len (hKA.1 x (by rw [hxd]; simp [hk3]))).2
    have htk : K.take (k + 1) = K.take k ++ [x] := by
      rw [List.take_add_one, hxd]
      simp [hk3]
    obtain ⟨m, hm⟩ : ∃ m, m = lgS s (K.take k) := ⟨_, rfl⟩
    have hml : m.length ≤ 1000 := by
      have := (lg_inv (s := s) (K := K) k hk2).2.1
      rw [← hm] at this
      have := (pfB_iff.1 this).length_le
      omega
    have hgt : (K.map AV.str)[k]? = some (.str x) := by rw [hxd]; exact get_S hk3
    have hsn : lgS s (K.take (k + 1)) = if pfB x s = true ∧ m.length < x.length then x else m := by rw [htk, lg_snoc, ← hm]
    rcases hbb with ⟨h5, h6⟩ | ⟨_, rfl, hcb⟩
    · rw [h5] at hoK
      rw [← hoK] at hk3
      simp [lS] at hk3
    have hia : iaddrA 1 (.sl bb 0 1 K.length K.length) (.int .i64 k) = some (.adr bb k) := by
      rw [iaddrA_sl (by omega) (by omega)]
      simp
    rw [← hm]
    (try (simp (disch := first | omega | (simp <;> omega) | fail) only [push_cast, ↓reduceIte, Nat.reduceEqDiff, Nat.reduceAdd, Nat.reduceMul, Nat.reduceSub, Nat.reduceLT, Int.reduceToNat, hia, hcb, hgt]))
    refine (c_strings_HasPrefix s x (by omega) (by omega)).call ?_
    have hpf : pfB x s = (decide (x.length ≤ s.length) && decide (s.take x.length = x)) := rfl
    rw [← hpf]
    cases hb : pfB x s
    · rw [hb] at hsn
      simp only [Bool.false_eq_true, false_and, if_false] at hsn
      (try (simp (disch := first | omega | (simp <;> omega) | fail) only [push_cast, ↓reduceIte, Nat.reduceEqDiff, Nat.reduceAdd, Nat.reduceMul, Nat.reduceSub, Nat.reduceLT, Int.reduceToNat]))
      all_goals (try exact hsn.symm)
      all_goals (try (rw [hsn]))
      done
    · rw [hb] at hsn
      simp only [true_and] at hsn
      by_cases hlt : m.length < x.length
      · rw [if_pos hlt] at hsn
        have e1 : ((m.length : Int) < (x.length : Int)) = True := eq_true (by omega)
        (try (simp (disch := first | omega | (simp <;> omega) | fail) only [push_cast, ↓reduceIte, Nat.reduceEqDiff, Nat.reduceAdd, Nat.reduceMul, Nat.reduceSub, Nat.reduceLT, Int.reduceToNat, e1]))
        all_goals (try exact hsn.symm)
        all_goals (try (rw [hsn]))
        done
      · rw [if_neg hlt] at hsn
        have e1 : ((m.length : Int) < (x.length : Int)) = False := eq_false (by omega)
        (try (simp (disch := first | omega | (simp <;> omega) | fail) only [push_cast, ↓reduceIte, Nat.reduceEqDiff, Nat.reduceAdd, Nat.reduceMul, Nat.reduceSub, Nat.reduceLT, Int.reduceToNat, e1]))
        all_goals (try exact hsn.symm)
        all_goals (try (rw [hsn]))
        done
  · (try (simp only [decide_eq_true_eq, decide_eq_false_iff_not, Bool.not_eq_true', Bool.not_eq_false', Bool.and_eq_true, Bool.or_eq_true, Int.not_lt, Int.not_le] at hc)); (try (simp (disch := first | omega | (simp <;> omega) | fail) only [push_cast, ↓reduceIte, Nat.reduceEqDiff, Nat.reduceAdd, Nat.reduceMul, Nat.reduceSub, Nat.reduceLT, Int.reduceToNat]))
    have hke : k = K.length := by omega
    subst hke
    rw [List.take_length]
    by_cases h0 : lgS s K = []
    · (try (simp (disch := first | omega | (simp <;> omega) | fail) only [push_cast, ↓reduceIte, Nat.reduceEqDiff, Nat.reduceAdd, Nat.reduceMul, Nat.reduceSub, Nat.reduceLT, Int.reduceToNat, h0]))
      all_goals (try rfl)
      all_goals (try simp [h0])
      done
    · (try (simp (disch := first | omega | (simp <;> omega) | fail) only [push_cast, ↓reduceIte, Nat.reduceEqDiff, Nat.reduceAdd, Nat.reduceMul, Nat.reduceSub, Nat.reduceLT, Int.reduceToNat, h0]))
      all_goals (try rfl)
      all_goals (try simp [h0])
      done

/-- What BuildFront answers. -/
def bfV (K : List Str) (b : Int) : AV := if okKeys K = true ∧ 1 ≤ b ∧ b ≤ 16 then .tup [eFr b.toNat K, .bool true] else .tup [.agg [.int .i64 0, .nils, .nils], .bool false]
theorem c_impl_BuildFront (o : Option (List Str)) (b : Int) : Fn Tryz.prog 9 [eS o, .int .i64 b] (· = bfV (lS o) b) := by
  refine Fn.of (by unfold bfV; split <;> first | exact free_tup (free_cons_ free_eFr (free_cons_ free_bool free_nil_)) | exact free_tup (free_cons_ (free_agg (free_cons_ free_int (free_cons_ free_nils (free_cons_ free_nils free_nil_)))) (free_cons_ free_bool free_nil_))) fun h => ?_
  refine enter (by kernel_rfl) e9 (by kernel_rfl) rfl fun hok => ?_
  simp only [r9, initEnv_2]
  have hAK := c_impl_AreKeys o
  have hbv : bfV (lS o) b = if okKeys (lS o) = true ∧ 1 ≤ b ∧ b ≤ 16 then .tup [eFr b.toNat (lS o), .bool true] else .tup [.agg [.int .i64 0, .nils, .nils], .bool false] := rfl
  generalize bfV (lS o) b = R at hbv
  have hb0 : H.cells (h ++ [some (.cells [.int .i64 0, .nils, .nils])]) h.length = some [.int .i64 0, .nils, .nils] := by rw [cells_h0]; rfl
  have hpm : (h.length ≤ h.length) = True := by simp
  have hw := fun cs => cells_wr2 (cells_lt hb0) (cs := cs)
  (try (simp (disch := first | omega | (simp <;> omega) | fail) only [push_cast, ↓reduceIte, Nat.reduceEqDiff, Nat.reduceAdd, Nat.reduceMul, Nat.reduceSub, Nat.reduceLT, Int.reduceToNat]))
  refine hAK.call ?_
  cases hK : okKeys (lS o)
  · rw [hK, if_neg (by simp)] at hbv
    subst hbv
    (try (simp (disch := first | omega | (simp <;> omega) | fail) only [push_cast, ↓reduceIte, Nat.reduceEqDiff, Nat.reduceAdd, Nat.reduceMul, Nat.reduceSub, Nat.reduceLT, Int.reduceToNat, hb0, hpm, hw]))
    done
  · (try (simp (disch := first | omega | (simp <;> omega) | fail) only [push_cast, ↓reduceIte, Nat.reduceEqDiff, Nat.reduceAdd, Nat.reduceMul, Nat.reduceSub, Nat.reduceLT, Int.reduceToNat]))
    refine (c_impl_in b 1 16).call ?_
    by_cases hb : 1 ≤ b ∧ b ≤ 16
    · rw [hK, if_pos ⟨rfl, hb⟩] at hbv
      have hin : (decide (1 ≤ b) && decide (b ≤ 16)) = true := by simp; omega
      rw [hin]
      obtain ⟨n, rfl⟩ : ∃ n : Nat, b = (n : Int) := ⟨b.toNat, by omega⟩
      have hKA := okKeys_all hK
      have hF := (c_impl_front_o o n (by omega) (by omega) (by omega) (fun s hs => by have := (okKey_len (hKA.1 s hs)).2; omega)).fn
      have e : eFr n (lS o) = .agg [.int .i64 n, eI (oIn (keF (lS o) n (lS o).length)), eS (oSn (taF (lS o) n (lS o).length))] := rfl
      simp only [Int.toNat_natCast] at hbv
      rw [e] at hF hbv
      subst hbv
      (try (simp (disch := first | omega | (simp <;> omega) | fail) only [push_cast, ↓reduceIte, Nat.reduceEqDiff, Nat.reduceAdd, Nat.reduceMul, Nat.reduceSub, Nat.reduceLT, Int.reduceToNat]))
      refine hF.call ?_
      (try (simp (disch := first | omega | (simp <;> omega) | fail) only [push_cast, ↓reduceIte, Nat.reduceEqDiff, Nat.reduceAdd, Nat.reduceMul, Nat.reduceSub, Nat.reduceLT, Int.reduceToNat, hb0, hpm, hw]))
      done
    · rw [hK, if_neg (fun h => hb h.2)] at hbv
      subst hbv
      have hin : (decide (1 ≤ b) && decide (b ≤ 16)) = false := by simp; omega
      rw [hin]
      (try (simp (disch := first | omega | (simp <;> omega) | fail) only [push_cast, ↓reduceIte, Nat.reduceEqDiff, Nat.reduceAdd, Nat.reduceMul, Nat.reduceSub, Nat.reduceLT, Int.reduceToNat, hb0, hpm, hw]))
      done

/-- What BuildTrie answers. -/
def btV (K : List Str) : AV := if okKeys K = true then .tup [eTr (tK K), .bool true] else .tup [eTr ⟨⟨0, none⟩, ⟨0, none⟩, []⟩, .bool false]
theorem free_btV {K : List Str} : Free (btV K) := by
  unfold btV
  split <;> exact free_tup (free_cons_ free_eTr (free_cons_ free_bool free_nil_))
theorem c_spec_BuildTrie (o : Option (List Str)) : Fn Tryz.prog 10 [eS o] (· = btV (lS o)) := by
  refine Fn.of free_btV fun h => ?_
  refine enter (by kernel_rfl) e10 (by kernel_rfl) rfl fun hok => ?_
  simp only [r10, initEnv_1]
  have hAK := c_spec_biKeys o
  have hbv : btV (lS o) = if okKeys (lS o) = true then .tup [eTr (tK (lS o)), .bool true] else .tup [eTr ⟨⟨0, none⟩, ⟨0, none⟩, []⟩, .bool false] := rfl
  generalize btV (lS o) = R at hbv
  have hb0 : H.cells (h ++ [some (.cells [.int .i64 0, .nils, .int .i64 0, .nils, .str []])]) h.length = some [.int .i64 0, .nils, .int .i64 0, .nils, .str []] := by rw [cells_h0]; rfl
  have hpm : (h.length ≤ h.length) = True := by simp
  have hw := fun cs => cells_wr2 (cells_lt hb0) (cs := cs)
  (try (simp (disch := first | omega | (simp <;> omega) | fail) only [push_cast, ↓reduceIte, Nat.reduceEqDiff, Nat.reduceAdd, Nat.reduceMul, Nat.reduceSub, Nat.reduceLT, Int.reduceToNat]))
  refine hAK.call ?_
  cases hK : okKeys (lS o)
  · rw [hK, if_neg (by simp)] at hbv
    subst hbv
    (try (simp (disch := first | omega | (simp <;> omega) | fail) only [push_cast, ↓reduceIte, Nat.reduceEqDiff, Nat.reduceAdd, Nat.reduceMul, Nat.reduceSub, Nat.reduceLT, Int.reduceToNat, hb0, hpm, hw]))
    all_goals (try rfl)
    done
  · have hT := (c_spec_trOf_o o hK).fn
    rw [hK, if_pos rfl] at hbv
    subst hbv
    generalize tK (lS o) = T at *
    obtain ⟨⟨ts, tw⟩, ⟨us, uw⟩, tl⟩ := T
    (try (simp (disch := first | omega | (simp <;> omega) | fail) only [push_cast, ↓reduceIte, Nat.reduceEqDiff, Nat.reduceAdd, Nat.reduceMul, Nat.reduceSub, Nat.reduceLT, Int.reduceToNat]))
    refine hT.call ?_
    (try (simp (disch := first | omega | (simp <;> omega) | fail) only [push_cast, ↓reduceIte, Nat.reduceEqDiff, Nat.reduceAdd, Nat.reduceMul, Nat.reduceSub, Nat.reduceLT, Int.reduceToNat, hb0, hpm, hw]))
    all_goals (try rfl)
    done

end Go.Proofs.YtdkgoaiodjokpaaGreat.M
