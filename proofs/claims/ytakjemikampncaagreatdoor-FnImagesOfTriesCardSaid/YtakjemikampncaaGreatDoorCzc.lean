/-
  What the functions return.
-/
import Derived.Test.YtakjemikampncaaGreatDoorFzc
import Derived.Test.YtakjemikampncaaGreatDoorShelf
import Derived.Test.YtakjemikampncaaGreatDoorCzb
namespace Go.Proofs.YtakjemikampncaaGreatDoor.M
open Go Go.RowKit
attribute [local instance] dqF
set_option linter.unusedVariables false
set_option linter.unusedSimpArgs false
set_option maxRecDepth 4000

def trieT (K : List Str) : Str := trW ++ Lib.joinTail [32] K
def itV (t : Tr) : AV := match trV t with
  | some K => .tup [.str (sealT (trieT K)), .bool true]
  | none => .tup [.str [], .bool false]
theorem free_itV {t : Tr} : Free (itV t) := by
  unfold itV
  split <;> exact free_tup (free_cons_ free_str (free_cons_ free_bool free_nil_))
theorem lens_le {K : List Str} (h : ∀ s ∈ K, s.length ≤ 12) : Lib.lens K ≤ 12 * K.length := by
  unfold Lib.lens
  induction K with
  | nil => simp
  | cons s K ih =>
    have h1 := h s (by simp)
    have h2 := ih fun x hx => h x (List.mem_cons_of_mem _ hx)
    simp only [List.map_cons, List.sum_cons, List.length_cons]
    omega
theorem trieT_len {K : List Str} (hK : okKeys K = true) : (trieT K).length ≤ 600 := by
  have h1 := okKeys_all hK
  have h2 := lens_le fun s hs => (okKey_len (h1.1 s hs)).2
  unfold trieT trW
  rw [List.length_append, Lib.joinTail_length]
  simp only [List.length_cons, List.length_nil]
  omega
theorem trieT_plain {K : List Str} (hK : okKeys K = true) : plainV (trieT K) = true := by
  have hl := trieT_len hK
  have h1 := okKeys_all hK
  unfold plainV
  rw [Bool.and_eq_true, decide_eq_true_eq]
  refine ⟨?_, by omega⟩
  unfold plain trieT Lib.joinTail
  rw [List.all_append, Bool.and_eq_true]
  refine ⟨by decide, List.all_eq_true.2 fun c hc => ?_⟩
  obtain ⟨l, hl, hcl⟩ := List.mem_flatten.1 hc
  obtain ⟨s, hs, rfl⟩ := List.mem_map.1 hl
  rcases List.mem_append.1 hcl with h5 | h5
  · rw [List.mem_singleton.1 h5]
    decide
  · have h7 := h1.1 s hs
    unfold okKey at h7
    rw [Bool.and_eq_true] at h7
    have h8 := List.all_eq_true.1 h7.1 c h5
    unfold okByte at h8
    rw [Bool.and_eq_true, decide_eq_true_eq, decide_eq_true_eq] at h8
    unfold okCh
    rw [Bool.and_eq_true, decide_eq_true_eq, decide_eq_true_eq]
    omega
theorem join_trieT {K : List Str} : Lib.join (trW :: K) [32] = trieT K := Lib.join_cons _ _ _
theorem cat_trie {K : List Str} {k : Nat} {y : Str} (hyk : K[k]? = some y) (hyl : y.length ≤ 12) (hl : (trieT K).length ≤ 600) : ∃ T : Str, T = trieT (K.take k) ∧ abin .add (.str [32]) (.str y) = some (.str (32 :: y)) ∧ abin .add (.str T) (.str (32 :: y)) = some (.str (trieT (K.take (k + 1)))) := by
  have hnx := Lib.joinTail_take_succ [32] K k y hyk
  have htl := Lib.joinTail_take_le [32] K k
  unfold trieT at hl
  rw [List.length_append] at hl
  refine ⟨_, rfl, abin_s_add (a := [32]) (by simp; omega), ?_⟩
  have e : trieT (K.take (k + 1)) = trieT (K.take k) ++ (32 :: y) := by
    unfold trieT
    rw [hnx, List.append_assoc, List.append_assoc]
    rfl
  rw [e]
  refine abin_s_add ?_
  unfold trieT
  rw [List.length_append]
  simp only [List.length_cons]
  omega

theorem c_spec_stImage (o : Option (List Str)) (hK : okKeys (lS o) = true) : Fn Tryz.prog 31 [eS o] (· = .str (sealT (trieT (lS o)))) := by
  refine Fn.of free_str fun h => ?_
  refine enter (by kernel_rfl) e31 (by kernel_rfl) rfl fun hok => ?_
  simp only [r31, initEnv_1]
  have hlen := ok_eS (okV_0 hok)
  have h1 := okKeys_all hK
  have h2 := trieT_len hK
  have hs := c_spec_stSeal (trieT (lS o)) (by omega)
  have e0 : trieT ((lS o).take 0) = [116, 114, 105, 101] := rfl
  (try (simp (disch := first | omega | (simp <;> omega) | fail) only [push_cast, ↓reduceIte, Nat.reduceEqDiff, Nat.reduceAdd, Nat.reduceMul, Nat.reduceSub, Nat.reduceLT, Int.reduceToNat]))
  refine T_for (lS o).length (fun k e h' => Pins e [(3, .str (trieT ((lS o).take k))), (6, eS o), (7, .int .i64 (lS o).length), (8, .int .i64 k)] ∧ h' = h) ?_ ?_
  · rw [e0]
    (try (simp (disch := first | omega | (simp <;> omega) | fail) only [push_cast, ↓reduceIte, Nat.reduceEqDiff, Nat.reduceAdd, Nat.reduceMul, Nat.reduceSub, Nat.reduceLT, Int.reduceToNat]))
    all_goals (try simp)
  rintro k e h' hk ⟨hp, rfl⟩
  refine T_pins hp fun e => ?_
  (try (simp (disch := first | omega | (simp <;> omega) | fail) only [push_cast, ↓reduceIte, Nat.reduceEqDiff, Nat.reduceAdd, Nat.reduceMul, Nat.reduceSub, Nat.reduceLT, Int.reduceToNat]))
  first | refine goC_split (fun hc => ?_) (fun hc => ?_) | refine cnd_split (fun hc => ?_) (fun hc => ?_)
  · (try (simp only [decide_eq_true_eq, decide_eq_false_iff_not, Bool.not_eq_true', Bool.not_eq_false', Bool.and_eq_true, Bool.or_eq_true, Int.not_lt, Int.not_le] at hc)); (try (simp (disch := first | omega | (simp <;> omega) | fail) only [push_cast, ↓reduceIte, Nat.reduceEqDiff, Nat.reduceAdd, Nat.reduceMul, Nat.reduceSub, Nat.reduceLT, Int.reduceToNat]))
    have hk2 : k < (lS o).length := by omega
    obtain ⟨y, hy⟩ : ∃ y, y = (lS o).getD k [] := ⟨_, rfl⟩
    have hyk : (lS o)[k]? = some y := by rw [hy]; simp [hk2]
    have hyl : y.length ≤ 12 := (okKey_len (h1.1 y (List.mem_of_getElem? hyk))).2
    obtain ⟨T0, hT0, hc1, hc2⟩ := cat_trie hyk hyl h2
    rw [← hT0]
    have hgd : (lS o)[k]?.getD [] = y := by rw [hyk]; rfl
    (try (simp (disch := first | omega | (simp <;> omega) | fail) only [push_cast, ↓reduceIte, Nat.reduceEqDiff, Nat.reduceAdd, Nat.reduceMul, Nat.reduceSub, Nat.reduceLT, Int.reduceToNat, hgd, ← hy, hc1, hc2]))
  · (try (simp only [decide_eq_true_eq, decide_eq_false_iff_not, Bool.not_eq_true', Bool.not_eq_false', Bool.and_eq_true, Bool.or_eq_true, Int.not_lt, Int.not_le] at hc)); (try (simp (disch := first | omega | (simp <;> omega) | fail) only [push_cast, ↓reduceIte, Nat.reduceEqDiff, Nat.reduceAdd, Nat.reduceMul, Nat.reduceSub, Nat.reduceLT, Int.reduceToNat]))
    have hke : k = (lS o).length := by omega
    subst hke
    rw [List.take_length]
    (try (simp (disch := first | omega | (simp <;> omega) | fail) only [push_cast, ↓reduceIte, Nat.reduceEqDiff, Nat.reduceAdd, Nat.reduceMul, Nat.reduceSub, Nat.reduceLT, Int.reduceToNat]))
    refine hs.call ?_
    (try (simp (disch := first | omega | (simp <;> omega) | fail) only [push_cast, ↓reduceIte, Nat.reduceEqDiff, Nat.reduceAdd, Nat.reduceMul, Nat.reduceSub, Nat.reduceLT, Int.reduceToNat]))

theorem c_spec_ImageOfTrie (t : Tr) : Fn Tryz.prog 12 [eTr t] (· = itV t) := by
  refine Fn.of free_itV fun h => ?_
  refine enter (by kernel_rfl) e12 (by kernel_rfl) rfl fun hok => ?_
  simp only [r12, initEnv_1]
  have hk := c_spec_trKeys t
  have hkk := fun K => @trV_ok t K
  have hov : itV t = match trV t with | some K => .tup [.str (sealT (trieT K)), .bool true] | none => .tup [.str [], .bool false] := rfl
  generalize itV t = R at hov
  obtain ⟨⟨ss, sw⟩, ⟨es, ew⟩, lab⟩ := t
  (try (simp (disch := first | omega | (simp <;> omega) | fail) only [push_cast, ↓reduceIte, Nat.reduceEqDiff, Nat.reduceAdd, Nat.reduceMul, Nat.reduceSub, Nat.reduceLT, Int.reduceToNat]))
  refine hk.use fun x hx => ?_
  obtain ⟨o, b, rfl, ⟨rfl, hx⟩ | ⟨rfl, hx⟩⟩ := hx
  · rw [hx] at hov
    simp only at hov
    subst hov
    have hs := c_spec_stImage o (hkk _ hx).1
    (try (simp (disch := first | omega | (simp <;> omega) | fail) only [push_cast, ↓reduceIte, Nat.reduceEqDiff, Nat.reduceAdd, Nat.reduceMul, Nat.reduceSub, Nat.reduceLT, Int.reduceToNat]))
    refine hs.call ?_
    (try (simp (disch := first | omega | (simp <;> omega) | fail) only [push_cast, ↓reduceIte, Nat.reduceEqDiff, Nat.reduceAdd, Nat.reduceMul, Nat.reduceSub, Nat.reduceLT, Int.reduceToNat]))
  · rw [hx] at hov
    simp only at hov
    subst hov
    (try (simp (disch := first | omega | (simp <;> omega) | fail) only [push_cast, ↓reduceIte, Nat.reduceEqDiff, Nat.reduceAdd, Nat.reduceMul, Nat.reduceSub, Nat.reduceLT, Int.reduceToNat]))

theorem c_impl_Trie_keys_o (t : Tr) : FnO Tryz.prog 33 [.rad (cTr t) 0] (KyR t fun _ => true) := by
  intro h
  refine enter (by kernel_rfl) e33 (by kernel_rfl) rfl fun hok => ?_
  simp only [r33, initEnv_1]
  have hn := c_impl_Trie_nodes_o t
  have hE := c_impl_Trie_ends_o t
  have hkk := fun K => @trV_ok t K
  have hI := fun K => @trV_some t K
  have hky := fun o b => @KyR_all t o b
  have hnv : noV t = match trV t with | some K => eS (some (nodesK K)) | none => .nils := rfl
  have hfc := @free_cTr t
  rw [hnv] at hn
  clear hnv
  cases hv : trV t with
  | none =>
    rw [hv] at hn
    simp only at hn
    have hno : ∀ hh : H, ∃ t', Ow hh [.tup [.nils, .bool false]] [t'] (fun c => h.length ≤ c) ∧ KyR t (fun _ => true) t' := fun hh => ⟨_, ow_tup2_of rfl (.atom rfl .nil), hky none false (.inr ⟨rfl, hv, rfl⟩)⟩
    obtain ⟨⟨ss, sw⟩, ⟨es, ew⟩, lab⟩ := t
    (try (simp (disch := first | omega | (simp <;> omega) | fail) only [push_cast, ↓reduceIte, Nat.reduceEqDiff, Nat.reduceAdd, Nat.reduceMul, Nat.reduceSub, Nat.reduceLT, Int.reduceToNat]))
    refine hn.go fun x t' g hR hx how => ?_
    subst hR
    have hxn : x = .nils := how.atomOf rfl
    subst hxn
    (try (simp (disch := first | omega | (simp <;> omega) | fail) only [push_cast, ↓reduceIte, Nat.reduceEqDiff, Nat.reduceAdd, Nat.reduceMul, Nat.reduceSub, Nat.reduceLT, Int.reduceToNat]))
    all_goals (try exact hno _)
    done
  | some K =>
    rw [hv] at hn
    simp only at hn
    have hIK := hI K hv
    have hN1 := nodesK_cap (hkk K hv).2
    have hE2 := hE (some (nodesK K)) hIK.words (by show (nodesK K).length ≤ 5000; omega)
    have hek := fun L => @ends_keys t K L hIK
    have hyes : ∀ (hh : H) (x : AV), Ow hh [x] [eS (some K)] (fun c => h.length ≤ c) → ∃ t', Ow hh [.tup [x, .bool true]] [t'] (fun c => h.length ≤ c) ∧ KyR t (fun _ => true) t' := fun hh x hx => ⟨_, ow_tup2_of rfl hx, hky (some K) true (.inl ⟨rfl, hv⟩)⟩
    obtain ⟨⟨ss, sw⟩, ⟨es, ew⟩, lab⟩ := t
    (try (simp (disch := first | omega | (simp <;> omega) | fail) only [push_cast, ↓reduceIte, Nat.reduceEqDiff, Nat.reduceAdd, Nat.reduceMul, Nat.reduceSub, Nat.reduceLT, Int.reduceToNat]))
    refine hn.go fun x t' g hR hx how => ?_
    subst hR
    obtain ⟨b, rfl, hb0, hcb⟩ := ow_strs how
    (try (simp (disch := first | omega | (simp <;> omega) | fail) only [push_cast, ↓reduceIte, Nat.reduceEqDiff, Nat.reduceAdd, Nat.reduceMul, Nat.reduceSub, Nat.reduceLT, Int.reduceToNat]))
    refine hE2.goL (.free (free_radT hfc) (.cons (vw_all (Nat.zero_le _) hcb (by simp) (one_map fun _ => rfl) (free_map_ fun _ => free_str)) .nil)) fun x t' g2 hR hx2 how2 => ?_
    obtain ⟨L, rfl, p1, p2⟩ := hR
    have hLK : L = K := hek L p1 p2
    subst hLK
    have hl1 := hx.len
    have hf := hyes g2 x (how2.mono fun c hc => by have := hc.1; omega)
    (try (simp (disch := first | omega | (simp <;> omega) | fail) only [push_cast, ↓reduceIte, Nat.reduceEqDiff, Nat.reduceAdd, Nat.reduceMul, Nat.reduceSub, Nat.reduceLT, Int.reduceToNat]))
    all_goals (try exact hf)
    done

theorem c_strings_Join (L : List Str) (hL : L ≠ []) (hl : (Lib.join L [32]).length ≤ 100000) (hn : L.length ≤ 100000) : Fn Tryz.prog 61 [eS (some L), .str [32]] (· = .str (Lib.join L [32])) :=
  Fn.ofBelow (fun h => h) (canEnter_of Tryz.func61 (by kernel_rfl) (by kernel_rfl)) fun S w μ cargs hg ha => by
    obtain ⟨v, u, rfl, hv, hu⟩ := ar_2 ha
    rw [hu.str_]
    obtain ⟨A, cap, f, rfl, h1, h2, h3, h4, h5, h6, h7⟩ := VR.ro_ (show VR S w μ (.ro 1 (L.map .str) L.length) v from hv)
    have hp : 0 < L.length := List.length_pos_iff.2 hL
    obtain ⟨B, o, sp⟩ := A
    obtain rfl := (h5 (.inl hp)).2
    have hcell : ∀ (j : Nat) (x : ByteArray), (L.map fun s : Str => (⟨s.toArray⟩ : ByteArray))[j]? = some x → w.cell? ⟨B, o + j, none⟩ = some (.string x) := fun j x hx => by
      rw [List.getElem?_map] at hx
      cases hs : L[j]? with
      | none => rw [hs] at hx; cases hx
      | some s =>
        rw [hs] at hx
        simp only [Option.map_some, Option.some.injEq] at hx
        subst hx
        have hm : (L.map AV.str)[j]? = some (.str s) := by rw [List.getElem?_map, hs]; rfl
        have h8 := h6 j _ hm
        have h9 := (h7 j _ hm).str_
        rw [h8, h9]
    have hB : B < w.heap.size := by
      obtain ⟨s0, hs0⟩ : ∃ s, L[0]? = some s := ⟨L[0], List.getElem?_eq_getElem hp⟩
      have := hcell 0 ⟨s0.toArray⟩ (by rw [List.getElem?_map, hs0]; rfl)
      unfold World.cell? at this
      cases hh : w.heap[B]? with
      | none => simp [hh] at this
      | some _ => exact (Array.getElem?_eq_some_iff.1 hh).1
    have hmm : (L.map fun s : Str => (⟨s.toArray⟩ : ByteArray)).map (·.data.toList) = L := by
      rw [List.map_map]
      conv => rhs; rw [← List.map_id L]
      exact List.map_congr_left fun s _ => by simp
    have hc := Tryz.strings_Join B o cap (L.map fun s : Str => (⟨s.toArray⟩ : ByteArray)) ⟨#[32]⟩ w hcell hB (by rw [List.length_map]; omega) (by rw [List.length_map]; exact h1) (by
      rw [hmm]
      show (Lib.join L [32]).length ≤ _
      omega)
    rw [hmm, List.length_map] at hc
    refine hc.mono ?_
    rintro e w' ⟨rfl, hb⟩
    exact ⟨_, .str (Lib.join L [32]), rfl, rfl, fun S w μ => .str _ (by omega), hb⟩

theorem src_eS3 {h : H} {a : Option (List Str)} : srcCells h false 1 (eS a) = some ((lS a).map .str, (lS a).length) := by
  cases a with
  | none => rfl
  | some l => rw [eS, src_ro (by simp), Nat.mul_one, List.take_of_length_le (by simp)]; rfl
theorem c_impl_imageOfKeys (o : Option (List Str)) (hK : okKeys (lS o) = true) : Fn Tryz.prog 34 [eS o] (· = .tup [.str (sealT (trieT (lS o))), .bool true]) := by
  refine Fn.of (free_tup (free_cons_ free_str (free_cons_ free_bool free_nil_))) fun h => ?_
  refine enter (by kernel_rfl) e34 (by kernel_rfl) rfl fun hok => ?_
  simp only [r34, initEnv_1]
  have hlen := ok_eS (okV_0 hok)
  have h1 := okKeys_all hK
  have h2 := trieT_len hK
  have hp := trieT_plain hK
  have hj := c_strings_Join (trW :: lS o) (by simp) (by rw [join_trieT]; omega) (by simp; omega)
  rw [join_trieT] at hj
  have hs := c_impl_SealText (trieT (lS o)) (by omega)
  unfold sealV at hs
  rw [if_pos hp] at hs
  have hs0 : S1 (h ++ [some (.cells [.str [116, 114, 105, 101]])]) 1 (.sl h.length 0 1 1 1) 1 [.str [116, 114, 105, 101]] [h.length] := ⟨by simp, .inr ⟨_, rfl, rfl, by rw [cells_h0]; rfl⟩⟩
  (try (simp (disch := first | omega | (simp <;> omega) | fail) only [push_cast, ↓reduceIte, Nat.reduceEqDiff, Nat.reduceAdd, Nat.reduceMul, Nat.reduceSub, Nat.reduceLT, Int.reduceToNat]))
  rw [src_eS3]
  refine hs0.app0 (k := (lS o).length) (by_ := 16) (fun b hb => by simp at hb; subst hb; exact Or.inr (by omega)) (by simp) (by omega) fun v1 g1 B1 a1 a2 a3 a4 a5 => ?_
  have hL : [AV.str [116, 114, 105, 101]] ++ (lS o).map AV.str = (trW :: lS o).map .str := rfl
  have hn : 1 + (lS o).length = (trW :: lS o).length := by simp; omega
  rw [hL, hn] at a1
  have hv : Vw g1 0 v1 (eS (some (trW :: lS o))) := by
    rcases a1.2 with ⟨rfl, h0, _⟩ | ⟨b, rfl, rfl, hc⟩
    · simp at h0
    · exact vw_all (Nat.zero_le _) hc (by simp) (one_map fun _ => rfl) (free_map_ fun _ => free_str)
  (try (simp (disch := first | omega | (simp <;> omega) | fail) only [push_cast, ↓reduceIte, Nat.reduceEqDiff, Nat.reduceAdd, Nat.reduceMul, Nat.reduceSub, Nat.reduceLT, Int.reduceToNat]))
  refine hj.lendL (.cons hv (.free free_str .nil)) own_str ?_
  (try (simp (disch := first | omega | (simp <;> omega) | fail) only [push_cast, ↓reduceIte, Nat.reduceEqDiff, Nat.reduceAdd, Nat.reduceMul, Nat.reduceSub, Nat.reduceLT, Int.reduceToNat]))
  refine hs.call ?_
  (try (simp (disch := first | omega | (simp <;> omega) | fail) only [push_cast, ↓reduceIte, Nat.reduceEqDiff, Nat.reduceAdd, Nat.reduceMul, Nat.reduceSub, Nat.reduceLT, Int.reduceToNat]))

theorem c_impl_ImageOfTrie (t : Tr) : Fn Tryz.prog 14 [eTr t] (· = itV t) := by
  refine Fn.of free_itV fun h => ?_
  refine enter (by kernel_rfl) e14 (by kernel_rfl) rfl fun hok => ?_
  simp only [r14, initEnv_1]
  have hk := c_impl_Trie_keys_o t
  have hkk := fun K => @trV_ok t K
  have hov : itV t = match trV t with | some K => .tup [.str (sealT (trieT K)), .bool true] | none => .tup [.str [], .bool false] := rfl
  generalize itV t = R at hov
  have hfc := @free_cTr t
  have hcb0 : H.cells (h ++ [some (.cells (cTr t))]) h.length = some (cTr t) := by rw [cells_h0]; rfl
  have hg : ∀ v, KyR t (fun _ => true) v → ∃ o b, v = .tup [eS o, .bool b] ∧ ((b = true ∧ trV t = some (lS o)) ∨ (b = false ∧ trV t = none ∧ lS o = [])) := fun v => KyR_get
  obtain ⟨⟨ss, sw⟩, ⟨es, ew⟩, lab⟩ := t
  (try (simp (disch := first | omega | (simp <;> omega) | fail) only [push_cast, ↓reduceIte, Nat.reduceEqDiff, Nat.reduceAdd, Nat.reduceMul, Nat.reduceSub, Nat.reduceLT, Int.reduceToNat]))
  refine hk.goL (.adr hcb0 hfc .nil) fun x t' g hR hx how => ?_
  obtain ⟨o, b, rfl, hob⟩ := hg _ hR
  obtain ⟨y, rfl, hy⟩ := ow_tup2 rfl how
  rcases hob with ⟨rfl, h2⟩ | ⟨rfl, h2, h3⟩
  · rw [h2] at hov
    simp only at hov
    subst hov
    have hi := c_impl_imageOfKeys o (hkk _ h2).1
    (try (simp (disch := first | omega | (simp <;> omega) | fail) only [push_cast, ↓reduceIte, Nat.reduceEqDiff, Nat.reduceAdd, Nat.reduceMul, Nat.reduceSub, Nat.reduceLT, Int.reduceToNat]))
    refine hi.lendL (.cons hy.vw0 .nil) (own_tup (own_cons_ own_str (own_cons_ own_bool own_nil_))) ?_
    (try (simp (disch := first | omega | (simp <;> omega) | fail) only [push_cast, ↓reduceIte, Nat.reduceEqDiff, Nat.reduceAdd, Nat.reduceMul, Nat.reduceSub, Nat.reduceLT, Int.reduceToNat]))
  · rw [h2] at hov
    simp only at hov
    subst hov
    (try (simp (disch := first | omega | (simp <;> omega) | fail) only [push_cast, ↓reduceIte, Nat.reduceEqDiff, Nat.reduceAdd, Nat.reduceMul, Nat.reduceSub, Nat.reduceLT, Int.reduceToNat]))

end Go.Proofs.YtakjemikampncaaGreatDoor.M
