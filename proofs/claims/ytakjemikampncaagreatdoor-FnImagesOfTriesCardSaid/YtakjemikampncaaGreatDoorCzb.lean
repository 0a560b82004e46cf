/-
  What the functions return.
-/
import Derived.Test.YtakjemikampncaaGreatDoorFzb
import Derived.Test.YtakjemikampncaaGreatDoorShelf
import Derived.Test.YtakjemikampncaaGreatDoorCza
namespace Go.Proofs.YtakjemikampncaaGreatDoor.M
open Go Go.RowKit
attribute [local instance] dqF
set_option linter.unusedVariables false
set_option linter.unusedSimpArgs false
set_option maxRecDepth 4000

theorem ix_spec : ∀ (s : Str) (c : UInt8), (Lib.indexByte s c = -1 ∧ c ∉ s) ∨ ∃ k : Nat, Lib.indexByte s c = k ∧ k < s.length ∧ s.getD k 0 = c ∧ c ∉ s.take k
  | [], c => .inl ⟨rfl, by simp⟩
  | x :: s, c => by
    unfold Lib.indexByte
    by_cases hx : x = c
    · subst hx
      right
      refine ⟨0, ?_, by simp, by simp, by simp⟩
      simp
    · rcases ix_spec s c with ⟨h1, h2⟩ | ⟨k, h1, h2, h3, h4⟩
      · left
        refine ⟨?_, by simp [Ne.symm hx, h2]⟩
        simp [hx, h1]
      · right
        refine ⟨k + 1, ?_, by simp; omega, by simpa using h3, by simp [Ne.symm hx, h4]⟩
        simp [hx, h1]
        try omega
def cutB (s : Str) : Bool := decide ((126 : UInt8) ∈ s)
theorem cut_eq (s : Str) : (Lib.cut s [126]).1 = beforeT s ∧ (Lib.cut s [126]).2.2 = cutB s := by
  unfold Lib.cut cutB
  rw [Lib.index_one]
  rcases ix_spec s 126 with ⟨h1, h2⟩ | ⟨k, h1, h2, h3, h4⟩
  · rw [h1, if_neg (by omega)]
    exact ⟨(before_no h2).symm, by simp [h2]⟩
  · rw [h1, if_pos (by omega)]
    have hs := split_at h2 h3
    refine ⟨?_, ?_⟩
    · have : beforeT s = s.take k := by
        conv => lhs; rw [hs]
        refine before_app fun c hc => ?_
        simp only [bne_iff_ne, ne_eq]
        intro he
        exact h4 (he ▸ hc)
      rw [this]
      simp
    · have : (126 : UInt8) ∈ s := by
        rw [hs]
        simp
      simp [this]

theorem c_strings_Cut (s : Str) (hl : s.length ≤ 4000000000) : Fn Tryz.prog 36 [.str s, .str [126]] (· = .tup [.str (beforeT s), .str (Lib.cut s [126]).2.1, .bool (cutB s)]) :=
  Fn.ofGrow (canEnter_of Tryz.func36 (by kernel_rfl) (by kernel_rfl)) fun S w μ cargs hg ha => by
    obtain ⟨v, u, rfl, hv, hu⟩ := ar_2 ha
    rw [hv.str_, hu.str_]
    obtain ⟨m, hm⟩ := gl_int hg (List.mem_singleton.2 rfl)
    have hb : (beforeT s).length ≤ s.length := (List.takeWhile_prefix _).length_le
    have hb2 : (Lib.cut s [126]).2.1.length ≤ s.length := by
      unfold Lib.cut
      split <;> simp
    obtain ⟨c1, c2⟩ := cut_eq s
    refine ⟨.tuple #[.string ⟨(beforeT s).toArray⟩, .string ⟨(Lib.cut s [126]).2.1.toArray⟩, .bool (cutB s)], fun S w μ => .tup rfl (fun i x hx => ?_), (Tryz.strings_Cut ⟨s.toArray⟩ ⟨#[126]⟩ m w (by
      show s.toArray.size < 4294967281
      simp
      omega) hm).mono ?_⟩
    · rcases i with _ | _ | _ | i
      · simp at hx; subst hx; exact .str _ (by omega)
      · simp at hx; subst hx; exact .str _ (by omega)
      · simp at hx; subst hx; exact .bool _
      · simp at hx
    · rintro e w' ⟨rfl, n, rfl⟩
      refine ⟨?_, n, #[], by simp⟩
      rw [← c1, ← c2]

theorem c_strconv_Itoa (n : Int) (h0 : -9223372036854775808 ≤ n) (h1 : n ≤ 9223372036854775807) : Fn Tryz.prog 70 [.int .i64 n] (· = .str (Lib.itoa n)) :=
  Fn.ofGrow (canEnter_of Tryz.func70 (by kernel_rfl) (by kernel_rfl)) fun S w μ cargs hg ha => by
    obtain ⟨v, rfl, hv⟩ := ar_1 ha
    rw [hv.int_]
    refine ⟨.string ⟨(Lib.itoa n).toArray⟩, fun S w μ => .str _ (by
      have := Lib.itoa_length_le n h0 h1
      omega), Tryz.strconv_Itoa n h0 h1 w (gl_tab hg (List.mem_singleton.2 rfl) (by kernel_rfl))⟩

theorem c_impl_SealText (s : Str) (hl : s.length ≤ 1000000000) : Fn Tryz.prog 37 [.str s] (· = sealV s) := by
  refine Fn.of free_sealV fun h => ?_
  refine enter (by kernel_rfl) e37 (by kernel_rfl) rfl fun hok => ?_
  simp only [r37, initEnv_1]
  (try (simp (disch := first | omega | (simp <;> omega) | fail) only [push_cast, ↓reduceIte, Nat.reduceEqDiff, Nat.reduceAdd, Nat.reduceMul, Nat.reduceSub, Nat.reduceLT, Int.reduceToNat]))
  refine T_for s.length (fun i e h' => Pins e [(0, .str s), (4, .int .i64 (chk s i)), (7, .int .i64 s.length), (8, .int .i64 i)] ∧ h' = h ∧ plain (s.take i) = true) ?_ ?_
  · (try (simp (disch := first | omega | (simp <;> omega) | fail) only [push_cast, ↓reduceIte, Nat.reduceEqDiff, Nat.reduceAdd, Nat.reduceMul, Nat.reduceSub, Nat.reduceLT, Int.reduceToNat]))
    all_goals (try exact ⟨rfl, rfl⟩)
    all_goals (try rfl)
  rintro i e h' hi ⟨hp, rfl, ha⟩
  refine T_pins hp fun e => ?_
  obtain ⟨k0, k1⟩ := chk_bd s i
  (try (simp (disch := first | omega | (simp <;> omega) | fail) only [push_cast, ↓reduceIte, Nat.reduceEqDiff, Nat.reduceAdd, Nat.reduceMul, Nat.reduceSub, Nat.reduceLT, Int.reduceToNat]))
  first | refine goC_split (fun hc => ?_) (fun hc => ?_) | refine cnd_split (fun hc => ?_) (fun hc => ?_)
  · (try (simp only [decide_eq_true_eq, decide_eq_false_iff_not, Bool.not_eq_true', Bool.not_eq_false', Bool.and_eq_true, Bool.or_eq_true, Int.not_lt, Int.not_le] at hc)); (try (simp (disch := first | omega | (simp <;> omega) | fail) only [push_cast, ↓reduceIte, Nat.reduceEqDiff, Nat.reduceAdd, Nat.reduceMul, Nat.reduceSub, Nat.reduceLT, Int.reduceToNat]))
    have hi2 : i < s.length := by omega
    have hpt := plain_take hi2
    have hcb : (s.getD i 0).toNat < 256 := UInt8.toNat_lt _
    have hm := mul_bd (x := (i : Int) + 1) (y := ((s.getD i 0).toNat : Int)) (a := 1000000001) (b := 255) (by omega) (by omega) (by omega) (by omega)
    have hs : chk s (i + 1) = (chk s i + ((i : Int) + 1) * ((s.getD i 0).toNat : Int)) % 65521 := rfl
    cases hk : okCh (s.getD i 0)
    · have hno := plain_no hi2 hk
      unfold sealV plainV
      rw [hno]
      simp only [okCh, Bool.and_eq_false_iff, decide_eq_false_iff_not] at hk
      by_cases h32 : ((s.getD i 0).toNat : Int) < 32
      · (try (simp (disch := first | omega | (simp <;> omega) | fail) only [push_cast, ↓reduceIte, Nat.reduceEqDiff, Nat.reduceAdd, Nat.reduceMul, Nat.reduceSub, Nat.reduceLT, Int.reduceToNat]))
        all_goals (try rfl)
      · have h125 : 125 < ((s.getD i 0).toNat : Int) := by omega
        (try (simp (disch := first | omega | (simp <;> omega) | fail) only [push_cast, ↓reduceIte, Nat.reduceEqDiff, Nat.reduceAdd, Nat.reduceMul, Nat.reduceSub, Nat.reduceLT, Int.reduceToNat]))
        all_goals (try rfl)
    · have hk2 := hk
      simp only [okCh, Bool.and_eq_true, decide_eq_true_eq] at hk2
      obtain ⟨hk3, hk4⟩ := hk2
      have hpt2 : plain (s.take (i + 1)) = true := by rw [hpt, ha, hk]; rfl
      (try (simp (disch := first | omega | (simp <;> omega) | fail) only [push_cast, ↓reduceIte, Nat.reduceEqDiff, Nat.reduceAdd, Nat.reduceMul, Nat.reduceSub, Nat.reduceLT, Int.reduceToNat, hpt2]))
      all_goals (try (rw [hs]))
  · (try (simp only [decide_eq_true_eq, decide_eq_false_iff_not, Bool.not_eq_true', Bool.not_eq_false', Bool.and_eq_true, Bool.or_eq_true, Int.not_lt, Int.not_le] at hc)); (try (simp (disch := first | omega | (simp <;> omega) | fail) only [push_cast, ↓reduceIte, Nat.reduceEqDiff, Nat.reduceAdd, Nat.reduceMul, Nat.reduceSub, Nat.reduceLT, Int.reduceToNat]))
    have hie : i = s.length := by omega
    subst hie
    rw [List.take_length] at ha
    unfold sealV plainV
    rw [ha]
    obtain ⟨n, hn⟩ : ∃ n : Nat, chk s s.length = (n : Int) := ⟨_, (Int.toNat_of_nonneg k0).symm⟩
    have hdl := dec_len (n := n) (by omega)
    have hst : sealT s = s ++ 126 :: Lib.decDigits n := by
      unfold sealT
      rw [hn, Int.toNat_natCast]
    have hit : Lib.itoa (n : Int) = Lib.decDigits n := by rw [itoa_nn (by omega), Int.toNat_natCast]
    rw [hn]
    by_cases h6 : 6000 < s.length
    · (try (simp (disch := first | omega | (simp <;> omega) | fail) only [push_cast, ↓reduceIte, Nat.reduceEqDiff, Nat.reduceAdd, Nat.reduceMul, Nat.reduceSub, Nat.reduceLT, Int.reduceToNat]))
      all_goals (try rfl)
    · (try (simp (disch := first | omega | (simp <;> omega) | fail) only [push_cast, ↓reduceIte, Nat.reduceEqDiff, Nat.reduceAdd, Nat.reduceMul, Nat.reduceSub, Nat.reduceLT, Int.reduceToNat]))
      refine (c_strconv_Itoa n (by omega) (by omega)).call ?_
      rw [hit]
      (try (simp (disch := first | omega | (simp <;> omega) | fail) only [push_cast, ↓reduceIte, Nat.reduceEqDiff, Nat.reduceAdd, Nat.reduceMul, Nat.reduceSub, Nat.reduceLT, Int.reduceToNat]))
      rw [hst]
      all_goals (try simp)

theorem c_impl_OpenSeal (s : Str) (hl : s.length ≤ 1000000000) : Fn Tryz.prog 17 [.str s] (· = openV s) := by
  refine Fn.of free_openV fun h => ?_
  refine enter (by kernel_rfl) e17 (by kernel_rfl) rfl fun hok => ?_
  simp only [r17, initEnv_1]
  have hb : (beforeT s).length ≤ s.length := (List.takeWhile_prefix _).length_le
  (try (simp (disch := first | omega | (simp <;> omega) | fail) only [push_cast, ↓reduceIte, Nat.reduceEqDiff, Nat.reduceAdd, Nat.reduceMul, Nat.reduceSub, Nat.reduceLT, Int.reduceToNat]))
  refine (c_strings_Cut s (by omega)).call ?_
  (try (simp (disch := first | omega | (simp <;> omega) | fail) only [push_cast, ↓reduceIte, Nat.reduceEqDiff, Nat.reduceAdd, Nat.reduceMul, Nat.reduceSub, Nat.reduceLT, Int.reduceToNat]))
  refine (c_impl_SealText (beforeT s) (by omega)).call ?_
  unfold sealV openV openOk
  cases h1 : cutB s
  · have hno : (126 : UInt8) ∉ s := by simpa [cutB] using h1
    have hA := open_none hno
    unfold openOk at hA
    rw [hA]
    cases h2 : plainV (beforeT s)
    · (try (simp (disch := first | omega | (simp <;> omega) | fail) only [push_cast, ↓reduceIte, Nat.reduceEqDiff, Nat.reduceAdd, Nat.reduceMul, Nat.reduceSub, Nat.reduceLT, Int.reduceToNat]))
      all_goals (try rfl)
    · (try (simp (disch := first | omega | (simp <;> omega) | fail) only [push_cast, ↓reduceIte, Nat.reduceEqDiff, Nat.reduceAdd, Nat.reduceMul, Nat.reduceSub, Nat.reduceLT, Int.reduceToNat]))
      all_goals (try rfl)
  · cases h2 : plainV (beforeT s)
    · (try (simp (disch := first | omega | (simp <;> omega) | fail) only [push_cast, ↓reduceIte, Nat.reduceEqDiff, Nat.reduceAdd, Nat.reduceMul, Nat.reduceSub, Nat.reduceLT, Int.reduceToNat]))
      all_goals (try rfl)
    · by_cases h8 : sealT (beforeT s) = s
      · (try (simp (disch := first | omega | (simp <;> omega) | fail) only [push_cast, ↓reduceIte, Nat.reduceEqDiff, Nat.reduceAdd, Nat.reduceMul, Nat.reduceSub, Nat.reduceLT, Int.reduceToNat, h8]))
        all_goals (try rfl)
      · (try (simp (disch := first | omega | (simp <;> omega) | fail) only [push_cast, ↓reduceIte, Nat.reduceEqDiff, Nat.reduceAdd, Nat.reduceMul, Nat.reduceSub, Nat.reduceLT, Int.reduceToNat, h8]))
        all_goals (try rfl)

theorem c_strings_Split (s : Str) (hs : s.length ≤ 4000000000) : Fn Tryz.prog 46 [.str s, .str [32]] (· = eS (some (splitL 32 s))) := by
  have hlen := splitL_nlen 32 s
  have hcl : ((splitL 32 s).map AV.str).length = (splitL 32 s).length := by simp
  have hmx : (splitL 32 s).length ≤ maxLen := by unfold maxLen; omega
  have hf : Fn Tryz.prog 46 [.str s, .str [32]] (· = .ro 1 ((splitL 32 s).map AV.str) ((splitL 32 s).map AV.str).length) := Fn.ofAlloc (canEnter_of Tryz.func46 (by kernel_rfl) (by kernel_rfl)) (one_map fun _ => rfl) (free_map_ fun _ => free_str) (by rw [hcl]; exact hmx) fun S w μ cargs hg ha => by
    obtain ⟨v, u, rfl, hv, hu⟩ := ar_2 ha
    rw [hv.str_, hu.str_]
    obtain ⟨m, hm⟩ := gl_int hg (List.mem_singleton.2 rfl)
    have hc := Tryz.strings_Split ⟨s.toArray⟩ ⟨#[32]⟩ m w (by
      show s.toArray.size < 4294967281
      simp
      omega) hm (by decide)
    rw [split_vals] at hc
    have hcnt : Lib.countB ⟨s.toArray⟩ ⟨#[32]⟩ + 1 = ((splitL 32 s).map AV.str).length := by
      rw [hcl, splitL_count]
    rw [hcnt] at hc
    refine ⟨_, _, ?_, fun S w μ i x hx => ?_, hc⟩
    · simp
    · obtain ⟨p, hp, rfl⟩ : ∃ p, (splitL 32 s)[i]? = some p ∧ AV.str p = x := by simpa using hx
      have hl := splitL_len 32 s p (List.mem_of_getElem? hp)
      rw [Array.getD_eq_getD_getElem?]
      simp [hp]
      exact .str _ (by omega)
  rw [hcl] at hf
  exact hf

theorem c_impl_opened (s word : Str) (hl : s.length ≤ 1000000000) : Fn Tryz.prog 24 [.str s, .str word] (· = openedV s word) := by
  refine Fn.of free_openedV fun h => ?_
  refine enter (by kernel_rfl) e24 (by kernel_rfl) rfl fun hok => ?_
  simp only [r24, initEnv_2]
  (try (simp (disch := first | omega | (simp <;> omega) | fail) only [push_cast, ↓reduceIte, Nat.reduceEqDiff, Nat.reduceAdd, Nat.reduceMul, Nat.reduceSub, Nat.reduceLT, Int.reduceToNat]))
  refine (c_impl_OpenSeal s hl).call ?_
  unfold openV openedV
  cases hk : openOk s (beforeT s)
  · (try (simp (disch := first | omega | (simp <;> omega) | fail) only [push_cast, ↓reduceIte, Nat.reduceEqDiff, Nat.reduceAdd, Nat.reduceMul, Nat.reduceSub, Nat.reduceLT, Int.reduceToNat]))
    refine (c_strings_Split [] (by simp)).call ?_
    (try (simp (disch := first | omega | (simp <;> omega) | fail) only [push_cast, ↓reduceIte, Nat.reduceEqDiff, Nat.reduceAdd, Nat.reduceMul, Nat.reduceSub, Nat.reduceLT, Int.reduceToNat]))
    all_goals (try rfl)
  · have h6 := open_len hk
    have hnl := splitL_nlen 32 (beforeT s)
    have hne := splitL_ne 32 (beforeT s)
    have hpos := List.length_pos_iff.2 hne
    (try (simp (disch := first | omega | (simp <;> omega) | fail) only [push_cast, ↓reduceIte, Nat.reduceEqDiff, Nat.reduceAdd, Nat.reduceMul, Nat.reduceSub, Nat.reduceLT, Int.reduceToNat]))
    refine (c_strings_Split (beforeT s) (by omega)).call ?_
    generalize splitL 32 (beforeT s) = L at *
    have hlS : lS (some L) = L := rfl
    have hpos2 : 0 < (lS (some L)).length := hpos
    by_cases hw : L.getD 0 [] = word
    · (try (simp (disch := first | omega | (simp <;> omega) | fail) only [push_cast, ↓reduceIte, Nat.reduceEqDiff, Nat.reduceAdd, Nat.reduceMul, Nat.reduceSub, Nat.reduceLT, Int.reduceToNat, hlS, hw]))
      all_goals (try rfl)
    · (try (simp (disch := first | omega | (simp <;> omega) | fail) only [push_cast, ↓reduceIte, Nat.reduceEqDiff, Nat.reduceAdd, Nat.reduceMul, Nat.reduceSub, Nat.reduceLT, Int.reduceToNat, hlS, hw]))
      all_goals (try rfl)

theorem lastOk_ofT {B n m : Nat} (hm : (((n : Int) + 15) / 16) = (m : Int)) (hB : B < 2 ^ n) : lastOk n (wordsN B m) = true := by
  unfold lastOk
  rw [Bool.or_eq_true, decide_eq_true_eq, decide_eq_true_eq]
  by_cases hz : (n : Int) % 16 = 0
  · exact .inl hz
  · right
    have hm1 : 1 ≤ m := by omega
    rw [wordsN_len, wordsN_get (by omega)]
    have hr : min ((n : Int) % 16).toNat IntKind.i64.bits = n % 16 := by
      simp [IntKind.bits]
      omega
    rw [hr]
    have hlt : wordN B (m - 1) < 2 ^ (n % 16) := by
      unfold wordN
      refine Nat.lt_of_le_of_lt (Nat.mod_le _ _) ?_
      rw [Nat.shiftRight_eq_div_pow, Nat.div_lt_iff_lt_mul (Nat.two_pow_pos _), ← Nat.pow_add]
      rwa [show n % 16 + 16 * (m - 1) = n by omega]
    have h2 : ((2 : Int) ^ (n % 16)) = ((2 ^ (n % 16) : Nat) : Int) := by simp
    rw [h2, ← Int.ofNat_fdiv, Nat.div_eq_of_lt hlt]
    rfl
theorem okBt_ofT {B n m : Nat} (hm : (((n : Int) + 15) / 16) = (m : Int)) (hB : B < 2 ^ n) (hn : n ≤ 4096) : okBt ⟨n, some (wordsN B m)⟩ = true := by
  have hl : lI (some (wordsN B m)) = wordsN B m := rfl
  have hw : okWords (wordsN B m) = true := by
    unfold okWords
    rw [List.all_eq_true]
    intro w hw
    have := wordsN_all w hw
    simp [this.1, this.2]
  simp only [okBt, hl, wordsN_len, hw, lastOk_ofT hm hB, Bool.and_eq_true, decide_eq_true_eq, and_true] <;> omega
theorem nodup_le : ∀ {l m : List Str}, l.Nodup → (∀ x ∈ l, x ∈ m) → l.length ≤ m.length
  | [], m, _, _ => by simp
  | x :: l, m, hn, hs => by
    rw [List.nodup_cons] at hn
    have hx : x ∈ m := hs x (by simp)
    have h1 := nodup_le (l := l) (m := m.erase x) hn.2 fun y hy => by
      have hne : y ≠ x := fun h => hn.1 (h ▸ hy)
      exact (List.mem_erase_of_ne hne).2 (hs y (List.mem_cons_of_mem _ hy))
    have h2 := List.length_erase_of_mem hx
    have h3 := List.length_pos_of_mem hx
    rw [List.length_cons]
    omega
theorem okBt_md {l : List Bool} (hl : l.length ≤ 4096) : okBt (mdB l) = true := by
  refine okBt_ofT (n := l.length) (B := bitN l l.length) (m := (l.length + 15) / 16) ?_ bitN_lt hl
  omega
theorem tK_ok {K : List Str} (hK : okKeys K = true) : TrI (tK K) K := by
  have htr := nodesK_tri hK
  have hN := nodesK_cap (okKeys_all hK).2.2
  have hs := htr.shape
  obtain ⟨R, hR, _, _⟩ := htr.head
  have hp : 0 < (nodesK K).length := by rw [hR]; simp
  have hl : (labL (nodesK K)).length = (nodesK K).length - 1 := by simp [labL]
  have he : (endL K (nodesK K)).length = (nodesK K).length := by simp [endL]
  refine ⟨?_, hK, sameT_iff.2 ⟨sameB_iff.2 ⟨rfl, rfl⟩, sameB_iff.2 ⟨rfl, rfl⟩, rfl⟩⟩
  unfold okT0 tK
  rw [okBt_md (by omega), okBt_md (by omega)]
  have e1 : (mdB (shapeL (nodesK K))).size = ((shapeL (nodesK K)).length : Int) := rfl
  have e2 : (mdB (endL K (nodesK K))).size = ((endL K (nodesK K)).length : Int) := rfl
  simp only [Bool.and_self, Bool.true_and, Bool.and_eq_true, decide_eq_true_eq]
  rw [e1, e2, he]
  omega
theorem keep_one {K : List Str} (hK : okKeys K = true) {i : Nat} (hi : i < K.length) : okKeys (K.take i ++ K.drop (i + 1)) = true ∧ K.getD i [] ∉ K.take i ++ K.drop (i + 1) ∧ ∀ s ∈ K.take i ++ K.drop (i + 1), s ∈ K := by
  obtain ⟨h1, h2, h3⟩ := okKeys_all hK
  have e : K = K.take i ++ K[i] :: K.drop (i + 1) := by
    conv => lhs; rw [← List.take_append_drop i K, List.drop_eq_getElem_cons hi]
  have hg : K.getD i [] = K[i] := by simp [hi]
  have hsub : ∀ s ∈ K.take i ++ K.drop (i + 1), s ∈ K := fun s hs => by
    rcases List.mem_append.1 hs with h | h
    · exact List.mem_of_mem_take h
    · exact List.mem_of_mem_drop h
  have hp := h2
  rw [e, List.pairwise_append, List.pairwise_cons] at hp
  refine ⟨okKeys_of (fun s hs => h1 s (hsub s hs)) ?_ ?_, ?_, hsub⟩
  · rw [List.pairwise_append]
    exact ⟨hp.1, hp.2.1.2, fun a ha b hb => hp.2.2 a ha b (List.mem_cons_of_mem _ hb)⟩
  · rw [List.length_append, List.length_take, List.length_drop]
    omega
  · rw [hg]
    intro hm
    rcases List.mem_append.1 hm with h | h
    · have := hp.2.2 _ h K[i] (.head _)
      unfold slt at this
      rw [bl_irr] at this
      cases this
    · have := hp.2.1.1 _ h
      unfold slt at this
      rw [bl_irr] at this
      cases this
theorem slt_irr : ∀ a, ¬ slt a a := fun a h => by
  unfold slt at h
  rw [bl_irr] at h
  cases h
theorem fewer_nodes {K R : List Str} (hK : okKeys K = true) (hR : okKeys R = true) (hsub : ∀ s ∈ R, s ∈ K) : (nodesK R).length ≤ (nodesK K).length := by
  refine nodup_le (pw_nodup nlt_irr (nodesK_ok hR).1) fun x hx => ?_
  rcases ((nodesK_ok hR).2 x).1 hx with h | ⟨s, hs, h⟩
  · exact ((nodesK_ok hK).2 x).2 (.inl h)
  · exact ((nodesK_ok hK).2 x).2 (.inr ⟨s, hsub s hs, h⟩)
theorem all_once {K : List Str} (hK : okKeys K = true) {j : Nat} (hj : j < K.length) : ((j : Nat) : Int) ∈ K.map (fndI ((nodesK K).filter fun x => decide (x ∈ K))) := by
  have hn : ((nodesK K).filter fun x => decide (x ∈ K)).Pairwise nlt := (nodesK_ok hK).1.filter _
  have hm : ∀ x, x ∈ (nodesK K).filter (fun x => decide (x ∈ K)) ↔ x ∈ K := fun x => ends_mem hK
  have hl : K.length ≤ ((nodesK K).filter fun x => decide (x ∈ K)).length := nodup_le (pw_nodup slt_irr (okKeys_all hK).2.1) fun x hx => (hm x).2 hx
  generalize (nodesK K).filter (fun x => decide (x ∈ K)) = M at *
  have hj2 : j < M.length := by omega
  refine List.mem_map.2 ⟨M[j], (hm _).1 (List.getElem_mem hj2), ?_⟩
  refine idx_at hj2 (by simp [hj2]) fun h => ?_
  obtain ⟨q, hq, he⟩ := List.mem_iff_getElem.1 h
  rw [List.length_take] at hq
  rw [List.getElem_take] at he
  have := List.pairwise_iff_getElem.1 hn q j (by omega) hj2 (by omega)
  rw [he] at this
  exact nlt_irr _ this
theorem nodes_none : nodesK ([] : List Str) = [[]] := by
  have : ∀ n, nodesTo ([] : List Str) n = [[]] := fun n => by
    induction n with
    | zero => rfl
    | succ n ih => exact ih
  exact this 12

theorem c_impl_BuildTrie_o (o : Option (List Str)) (hK : okKeys (lS o) = true) : FnO Tryz.prog 25 [eS o] (· = .tup [eTr (tK (lS o)), .bool true]) := by
  intro h
  refine enter (by kernel_rfl) e25 (by kernel_rfl) rfl fun hok => ?_
  simp only [r25, initEnv_1]
  have ht := c_impl_trie_o o hK
  have hAK := c_impl_AreKeys o
  rw [hK] at hAK
  (try (simp (disch := first | omega | (simp <;> omega) | fail) only [push_cast, ↓reduceIte, Nat.reduceEqDiff, Nat.reduceAdd, Nat.reduceMul, Nat.reduceSub, Nat.reduceLT, Int.reduceToNat]))
  refine hAK.call ?_
  (try (simp (disch := first | omega | (simp <;> omega) | fail) only [push_cast, ↓reduceIte, Nat.reduceEqDiff, Nat.reduceAdd, Nat.reduceMul, Nat.reduceSub, Nat.reduceLT, Int.reduceToNat]))
  refine ht.go fun x t g hR hx how => ?_
  subst hR
  generalize tK (lS o) = T at *
  obtain ⟨x2, x4, F2, F4, rfl, f2, f4, f5, f6, _⟩ := ow_trE how
  obtain ⟨p1, p2⟩ := ow_eI f2
  obtain ⟨p3, p4⟩ := ow_eI f4
  have hl := hx.len
  simp only [List.length_append, List.length_cons, List.length_nil] at hl
  have hb := hx.cells (b := h.length) (cs := [.int .i64 0, .nils, .int .i64 0, .nils, .str []]) (by rw [cells_h0]; rfl)
  have hpm : (h.length ≤ h.length) = True := by simp
  have hw := fun cs => cells_wr2 (cells_lt hb) (cs := cs)
  have hfin : ∀ cs, ∃ t', Ow (wr g h.length cs) [.tup [.agg [.int .i64 T.sh.size, x2, .int .i64 T.en.size, x4, .str T.lab], .bool true]] [t'] (fun c => h.length ≤ c) ∧ t' = .tup [eTr T, .bool true] := fun cs => by
    have hwr : ∀ c, c ≠ h.length → (wr g h.length cs)[c]? = g[c]? := fun c hc => by
      unfold wr
      rw [List.getElem?_set_ne (Ne.symm hc)]
    have h2 : ∀ c, F2 c → h.length + 1 ≤ c := fun c hc => by have := (f5 c hc).1; simpa using this
    have h4 : ∀ c, F4 c → h.length + 1 ≤ c ∧ ¬ F2 c := fun c hc => ⟨by have := (f6 c hc).1.1; simpa using this, (f6 c hc).2⟩
    have hT := ow_tr (lab := T.lab) (a := T.sh.size) (c := T.en.size) (n0 := h.length) (f2.frame fun c hc => hwr c (by have := h2 c hc; omega)) (f4.frame fun c hc => hwr c (by have := (h4 c hc).1; omega)) (fun c hc => by have := h2 c hc; omega) (fun c hc => ⟨by have := (h4 c hc).1; omega, (h4 c hc).2⟩)
    exact ⟨_, (hT.cons (F' := fun _ => False) (.atom rfl .nil) (fun _ h => h) (fun _ h => h.elim)).tupOf, rfl⟩
  (try (simp (disch := first | omega | (simp <;> omega) | fail) only [push_cast, ↓reduceIte, Nat.reduceEqDiff, Nat.reduceAdd, Nat.reduceMul, Nat.reduceSub, Nat.reduceLT, Int.reduceToNat, p1, p2, p3, p4, hb, hpm, hw, reads, List.mem_cons, List.mem_append, List.not_mem_nil, nat_ff, or_self, or_false, false_or, not_false_eq_true]))
  all_goals (try exact hfin _)

def zF : AV := .tup [.int .i64 0, .bool false]
def paV (t : Tr) (i : Int) : AV := match trV t with
  | some K => if 1 ≤ i ∧ i ≤ ((nodesK K).length : Int) - 1 then .tup [.int .i64 (fndI (nodesK K) (((nodesK K).getD i.toNat []).take (((nodesK K).getD i.toNat []).length - 1))), .bool true] else zF
  | none => zF
def chR (N : List Str) (s : Str) : AV := if fndI N s < 0 then zF else .tup [.int .i64 (fndI N s), .bool true]
def chV (t : Tr) (i c : Int) : AV := match trV t with
  | some K => if (0 ≤ i ∧ i ≤ ((nodesK K).length : Int) - 1) ∧ (0 ≤ c ∧ c ≤ 255) then chR (nodesK K) ((nodesK K).getD i.toNat [] ++ [UInt8.ofNat c.toNat]) else zF
  | none => zF
def txV (t : Tr) (s : Str) : AV := match trV t with
  | some K => if s ∈ K then .tup [.int .i64 (fndI ((nodesK K).filter fun x => decide (x ∈ K)) s), .bool true] else zF
  | none => zF
def rkV (t : Tr) (s : Str) : AV := match trV t with
  | some K => .tup [.int .i64 (rkS K s), .bool true]
  | none => zF
def KyR (t : Tr) (p : Str → Bool) (v : AV) : Prop := ∃ o b, v = .tup [eS o, .bool b] ∧ ((b = true ∧ ∃ K, trV t = some K ∧ lS o = K.filter p) ∨ (b = false ∧ trV t = none ∧ lS o = []))
def okV (t : Tr) : AV := match trV t with
  | some K => .tup [eS (some (nodesK K)), .bool true]
  | none => .tup [.nils, .bool false]
theorem trV_ok {t : Tr} {K : List Str} (h : trV t = some K) : okKeys K = true ∧ K.length ≤ 40 := ⟨(trV_some h).keys, (okKeys_all (trV_some h).keys).2.2⟩
theorem KyR.no {t : Tr} {p : Str → Bool} (h : trV t = none) : KyR t p (.tup [.nils, .bool false]) := ⟨none, false, rfl, .inr ⟨rfl, h, rfl⟩⟩

def nF : AV := .tup [.str [], .nils, .bool false]
def naV (t : Tr) (i : Int) : AV := match trV t with
  | some K => if 0 ≤ i ∧ i ≤ ((nodesK K).length : Int) - 1 then .tup [.str ((nodesK K).getD i.toNat []), eS (some (nodesK K)), .bool true] else nF
  | none => nF
theorem ow_nF {h : H} {x : AV} {G : Nat → Prop} (ho : Ow h [x] [nF] G) : x = nF := by
  obtain ⟨cs, rfl, h1⟩ := Ow.openTup (show Ow h [x] [.tup _] G from ho)
  rw [ow_atoms_eqT h1 (by simp [M.atom])]
  rfl
theorem nF_ow {h : H} {G : Nat → Prop} : Ow h [nF] [nF] G := (Ow.atom rfl (.atom rfl (.atom rfl .nil)) : Ow h [.str [], .nils, .bool false] [.str [], .nils, .bool false] G).tupOf
theorem ow_na {h : H} {x : AV} {s : Str} {N : List Str} {G : Nat → Prop} (ho : Ow h [x] [.tup [.str s, eS (some N), .bool true]] G) : ∃ b, x = .tup [.str s, .sl b 0 1 N.length N.length, .bool true] ∧ G b ∧ h.cells b = some (N.map .str) := by
  obtain ⟨cs, rfl, h1⟩ := Ow.openTup ho
  have hl : cs.length = 3 := h1.len.symm
  match cs, hl, h1 with
  | [x1, x2, x3], _, h1 =>
    obtain ⟨_, F, f1, h2, _, e1⟩ := h1.uncons
    obtain ⟨F2, F3, f2, h3, e2, e3⟩ := h2.uncons
    have a1 : x1 = .str s := f1.atomOf rfl
    have a3 : x3 = .bool true := h3.atomOf rfl
    obtain ⟨b, rfl, hb, hc⟩ := ow_strs f2
    subst a1 a3
    exact ⟨b, rfl, (e1 b (e2 b hb)).1, hc⟩
theorem own_zF {n : Nat} : Own n zF := own_tup (own_cons_ own_int (own_cons_ own_bool own_nil_))
theorem own_chR {n : Nat} {N : List Str} {s : Str} : Own n (chR N s) := by
  unfold chR
  split
  · exact own_zF
  · exact own_tup (own_cons_ own_int (own_cons_ own_bool own_nil_))
theorem free_zF : Free zF := free_tup (free_cons_ free_int (free_cons_ free_bool free_nil_))
theorem free_chR {N : List Str} {s : Str} : Free (chR N s) := by
  unfold chR
  split
  · exact free_zF
  · exact free_tup (free_cons_ free_int (free_cons_ free_bool free_nil_))
theorem chR_in {N : List Str} {s : Str} (h : s ∈ N) : chR N s = .tup [.int .i64 (fndI N s), .bool true] := by
  unfold chR
  rw [if_neg (fun h5 => fnd_neg.1 h5 h)]

def fnV (t : Tr) (s : Str) : AV := match trV t with
  | some K => chR (nodesK K) s
  | none => zF
theorem chR_nil {s : Str} : chR [] s = zF := by
  unfold chR
  rw [if_pos (by rw [fnd_no (by simp)]; decide)]

theorem cnt_ends {t : Tr} {K : List Str} (h : TrI t K) {i : Nat} (hi : i ≤ (nodesK K).length) : ((List.range i).filter (numW (lI t.en.words)).testBit).length = (((nodesK K).take i).filter fun x => decide (x ∈ K)).length := by
  have h1 := endsTo_filter (P := nodesK K) (g := atB t.en) (p := fun x => decide (x ∈ K)) i hi fun j hj => h.at_ (by omega)
  rw [← h1]
  unfold endsTo
  rw [List.length_map]
  rfl
theorem tx_at {t : Tr} {K : List Str} (h : TrI t K) {s : Str} {i : Nat} (hf : fndI (nodesK K) s = i) : i < (nodesK K).length ∧ atB t.en i = decide (s ∈ K) := by
  have hi := fnd_hi (l := nodesK K) (s := s)
  have hl : i < (nodesK K).length := by omega
  have hm : s ∈ nodesK K := by
    apply Classical.byContradiction
    intro h5
    rw [fnd_no h5] at hf
    omega
  obtain ⟨j, h1, _, h3, _⟩ := fnd_in hm
  have : j = i := by omega
  subst this
  exact ⟨hl, by rw [h.at_ hl, h3]⟩
theorem TrI.words {t : Tr} {K : List Str} (h : TrI t K) : okBt t.en = true := (okT0_in h.ok0).2.1

theorem KyR_all {t : Tr} {o : Option (List Str)} {b : Bool} (h : (b = true ∧ trV t = some (lS o)) ∨ (b = false ∧ trV t = none ∧ lS o = [])) : KyR t (fun _ => true) (.tup [eS o, .bool b]) := by
  refine ⟨o, b, rfl, ?_⟩
  rcases h with ⟨h1, h2⟩ | ⟨h1, h2, h3⟩
  · exact .inl ⟨h1, _, h2, (List.filter_eq_self.2 fun _ _ => rfl).symm⟩
  · exact .inr ⟨h1, h2, h3⟩
theorem KyR_get {t : Tr} {v : AV} (h : KyR t (fun _ => true) v) : ∃ o b, v = .tup [eS o, .bool b] ∧ ((b = true ∧ trV t = some (lS o)) ∨ (b = false ∧ trV t = none ∧ lS o = [])) := by
  obtain ⟨o, b, rfl, h⟩ := h
  refine ⟨o, b, rfl, ?_⟩
  rcases h with ⟨h1, K, h2, h3⟩ | h1
  · rw [List.filter_eq_self.2 fun _ _ => rfl] at h3
    exact .inl ⟨h1, by rw [h3]; exact h2⟩
  · exact .inr h1
theorem ow_tup2 {h : H} {x : AV} {t u : AV} {G : Nat → Prop} (hu : M.atom u = true) (ho : Ow h [x] [.tup [t, u]] G) : ∃ y, x = .tup [y, u] ∧ Ow h [y] [t] G := by
  obtain ⟨cs, rfl, h1⟩ := Ow.openTup ho
  have hl : cs.length = 2 := h1.len.symm
  match cs, hl, h1 with
  | [x1, x2], _, h1 =>
    obtain ⟨F, F', f1, h2, e1, e2⟩ := h1.uncons
    have a2 : x2 = u := h2.atomOf hu
    subst a2
    exact ⟨x1, rfl, f1.mono e1⟩
theorem ow_tup2_of {h : H} {y t u : AV} {G : Nat → Prop} (hu : M.atom u = true) (ho : Ow h [y] [t] G) : Ow h [.tup [y, u]] [.tup [t, u]] G :=
  (ho.cons (F' := fun _ => False) (.atom hu .nil) (fun _ h => h) (fun _ h => h.elim)).tupOf
/-- What the ends are of a right trie. -/
theorem ends_keys {t : Tr} {K L : List Str} (h : TrI t K) (hp : L.Perm (endsTo (nodesK K) (fun i => decide ((i : Int) < t.en.size) && atB t.en i) (nodesK K).length)) (hs : L.Pairwise fun x y => Op.bytesLess y x = false) : L = K := by
  have h1 := trV_sort h.ok0 (h.dec true) hp hs
  rw [trV_of h] at h1
  split at h1
  · injection h1 with h1
    exact h1.symm
  · cases h1
theorem eS_ow {h : H} {x : AV} {o : Option (List Str)} {G : Nat → Prop} (ho : Ow h [x] [eS o] G) : (o = none ∧ x = .nils) ∨ ∃ L b, o = some L ∧ x = .sl b 0 1 L.length L.length ∧ G b ∧ h.cells b = some (L.map .str) := by
  cases o with
  | none => exact .inl ⟨rfl, ho.atomOf rfl⟩
  | some L =>
    obtain ⟨b, h1, h2, h3⟩ := ow_strs ho
    exact .inr ⟨L, b, rfl, h1, h2, h3⟩

theorem zTr_ow {hh : H} {n : Nat} {b : Bool} : ∃ t', Ow hh [.tup [.agg [.int .i64 0, .nils, .int .i64 0, .nils, .str []], .bool b]] [t'] (fun c => n ≤ c) ∧ t' = .tup [eTr zTr, .bool b] :=
  ⟨_, ow_tup2_of rfl (Ow.aggOf (ts := cTr zTr) (.atom rfl (.atom rfl (.atom rfl (.atom rfl (.atom rfl .nil)))))), rfl⟩
theorem c_impl_BuildTrie_g (o : Option (List Str)) : FnO Tryz.prog 25 [eS o] (· = .tup [eTr (if okKeys (lS o) then tK (lS o) else zTr), .bool (okKeys (lS o))]) := by
  cases hK : okKeys (lS o)
  · intro h
    refine enter (by kernel_rfl) e25 (by kernel_rfl) rfl fun hok => ?_
    simp only [r25, initEnv_1]
    have hAK := c_impl_AreKeys o
    rw [hK] at hAK
    have hb0 : H.cells (h ++ [some (.cells [.int .i64 0, .nils, .int .i64 0, .nils, .str []])]) h.length = some [.int .i64 0, .nils, .int .i64 0, .nils, .str []] := by rw [cells_h0]; rfl
    have hpm : (h.length ≤ h.length) = True := by simp
    have hw := fun cs => cells_wr2 (cells_lt hb0) (cs := cs)
    (try (simp (disch := first | omega | (simp <;> omega) | fail) only [push_cast, ↓reduceIte, Nat.reduceEqDiff, Nat.reduceAdd, Nat.reduceMul, Nat.reduceSub, Nat.reduceLT, Int.reduceToNat]))
    refine hAK.call ?_
    (try (simp (disch := first | omega | (simp <;> omega) | fail) only [push_cast, ↓reduceIte, Nat.reduceEqDiff, Nat.reduceAdd, Nat.reduceMul, Nat.reduceSub, Nat.reduceLT, Int.reduceToNat, hb0, hpm, hw]))
    all_goals (try exact zTr_ow)
  · exact c_impl_BuildTrie_o o hK
theorem c_impl_LoadTrie_o (s : Str) (hsl : s.length ≤ 1000000000) : FnO Tryz.prog 7 [.str s] (· = ltV s) := by
  intro h
  refine enter (by kernel_rfl) e7 (by kernel_rfl) rfl fun hok => ?_
  simp only [r7, initEnv_1]
  have hnone : ∀ {hh : H}, ltD s = none → ∃ t', Ow hh [.tup [.agg [.int .i64 0, .nils, .int .i64 0, .nils, .str []], .bool false]] [t'] (fun c => h.length ≤ c) ∧ t' = ltV s := fun h1 => by
    rw [lt_none h1]
    exact zTr_ow
  have hpm : (h.length ≤ h.length) = True := by simp
  have hb0 : H.cells (h ++ [some (.cells [.int .i64 0, .nils, .int .i64 0, .nils, .str []])]) h.length = some [.int .i64 0, .nils, .int .i64 0, .nils, .str []] := by rw [cells_h0]; rfl
  have hw := fun cs => cells_wr2 (cells_lt hb0) (cs := cs)
  (try (simp (disch := first | omega | (simp <;> omega) | fail) only [push_cast, ↓reduceIte, Nat.reduceEqDiff, Nat.reduceAdd, Nat.reduceMul, Nat.reduceSub, Nat.reduceLT, Int.reduceToNat]))
  refine (c_impl_opened s [116, 114, 105, 101] hsl).call ?_
  unfold openedV
  by_cases hop : openOk s (beforeT s) = true ∧ (splitL 32 (beforeT s)).getD 0 [] = [116, 114, 105, 101]
  · rw [if_pos hop]
    obtain ⟨L, hL⟩ : ∃ L, L = (splitL 32 (beforeT s)).drop 1 := ⟨_, rfl⟩
    have hlt : ltD s = if okKeys L = true then some L else none := by
      unfold ltD trW
      rw [hop.1, hop.2, ← hL]
      simp only [true_and]
    have hB := c_impl_BuildTrie_g (some L)
    have hlS : lS (some L) = L := rfl
    rw [hlS] at hB
    have hv : ltV s = .tup [eTr (if okKeys L then tK L else zTr), .bool (okKeys L)] := by
      cases hk : okKeys L
      · rw [lt_none (by rw [hlt, hk]; rfl)]
        rfl
      · rw [lt_some (by rw [hlt, hk]; rfl)]
        rfl
    rw [hv]
    rw [← hL]
    clear hv hlt hnone hL hop
    generalize (if okKeys L then tK L else zTr) = T at *
    generalize okKeys L = q at *
    (try (simp (disch := first | omega | (simp <;> omega) | fail) only [push_cast, ↓reduceIte, Nat.reduceEqDiff, Nat.reduceAdd, Nat.reduceMul, Nat.reduceSub, Nat.reduceLT, Int.reduceToNat]))
    refine hB.go fun x t g hR hx how => ?_
    subst hR
    obtain ⟨y, rfl, hy⟩ := ow_tup2 rfl how
    obtain ⟨x2, x4, F2, F4, rfl, f2, f4, f5, f6, _⟩ := ow_trE hy
    obtain ⟨p1, p2⟩ := ow_eI f2
    obtain ⟨p3, p4⟩ := ow_eI f4
    have hb := hx.cells hb0
    have hwg := fun cs => cells_wr2 (cells_lt hb) (cs := cs)
    have hfin : ∀ cs, ∃ t', Ow (wr g h.length cs) [.tup [.agg [.int .i64 T.sh.size, x2, .int .i64 T.en.size, x4, .str T.lab], .bool q]] [t'] (fun c => h.length ≤ c) ∧ t' = .tup [eTr T, .bool q] := fun cs => by
      have hwr : ∀ c, c ≠ h.length → (wr g h.length cs)[c]? = g[c]? := fun c hc => by
        unfold wr
        rw [List.getElem?_set_ne (Ne.symm hc)]
      have h2 : ∀ c, F2 c → h.length + 1 ≤ c := fun c hc => by have := (f5 c hc).1; simpa using this
      have h4 : ∀ c, F4 c → h.length + 1 ≤ c ∧ ¬ F2 c := fun c hc => ⟨by have := (f6 c hc).1.1; simpa using this, (f6 c hc).2⟩
      have hT := ow_tr (lab := T.lab) (a := T.sh.size) (c := T.en.size) (n0 := h.length) (f2.frame fun c hc => hwr c (by have := h2 c hc; omega)) (f4.frame fun c hc => hwr c (by have := (h4 c hc).1; omega)) (fun c hc => by have := h2 c hc; omega) (fun c hc => ⟨by have := (h4 c hc).1; omega, (h4 c hc).2⟩)
      exact ⟨_, ow_tup2_of rfl hT, rfl⟩
    (try (simp (disch := first | omega | (simp <;> omega) | fail) only [push_cast, ↓reduceIte, Nat.reduceEqDiff, Nat.reduceAdd, Nat.reduceMul, Nat.reduceSub, Nat.reduceLT, Int.reduceToNat, p1, p2, p3, p4, hb, hpm, hwg, reads, List.mem_cons, List.mem_append, List.not_mem_nil, nat_ff, or_self, or_false, false_or, not_false_eq_true]))
    all_goals (try exact hfin _)
    done
  · rw [if_neg hop]
    have hl : ltD s = none := by
      unfold ltD trW
      rw [if_neg fun h5 => hop ⟨h5.1, h5.2.1⟩]
    (try (simp (disch := first | omega | (simp <;> omega) | fail) only [push_cast, ↓reduceIte, Nat.reduceEqDiff, Nat.reduceAdd, Nat.reduceMul, Nat.reduceSub, Nat.reduceLT, Int.reduceToNat, hb0, hpm, hw]))
    all_goals (try exact hnone hl)
    done

theorem c_laws_eqIntS (a b : Option (List Int)) : Fn Tryz.prog 49 [eI a, eI b] (· = .bool (decide (lI a = lI b))) := by
  refine Fn.of free_bool fun h => ?_
  refine enter (by kernel_rfl) e49 (by kernel_rfl) rfl fun hok => ?_
  simp only [r49, initEnv_2]
  have ha := ok_eI (okV_0 hok)
  have hb := ok_eI (okV_1 hok)
  (try (simp (disch := first | omega | (simp <;> omega) | fail) only [push_cast, ↓reduceIte, Nat.reduceEqDiff, Nat.reduceAdd, Nat.reduceMul, Nat.reduceSub, Nat.reduceLT, Int.reduceToNat]))
  first | refine goC_split (fun hc => ?_) (fun hc => ?_) | refine cnd_split (fun hc => ?_) (fun hc => ?_)
  · (try (simp only [decide_eq_true_eq, decide_eq_false_iff_not, Bool.not_eq_true', Bool.not_eq_false', Bool.and_eq_true, Bool.or_eq_true, Int.not_lt, Int.not_le] at hc)); (try (simp (disch := first | omega | (simp <;> omega) | fail) only [push_cast, ↓reduceIte, Nat.reduceEqDiff, Nat.reduceAdd, Nat.reduceMul, Nat.reduceSub, Nat.reduceLT, Int.reduceToNat]))
    congr 1
    symm
    rw [decide_eq_false_iff_not]
    intro he
    rw [he] at hc
    exact hc rfl
  have hlen : (lI a).length = (lI b).length := by (try (simp only [decide_eq_true_eq, decide_eq_false_iff_not, Bool.not_eq_true', Bool.not_eq_false', Bool.and_eq_true, Bool.or_eq_true, Int.not_lt, Int.not_le] at hc)); (try (simp (disch := first | omega | (simp <;> omega) | fail) only [push_cast, ↓reduceIte, Nat.reduceEqDiff, Nat.reduceAdd, Nat.reduceMul, Nat.reduceSub, Nat.reduceLT, Int.reduceToNat])); omega
  (try (simp (disch := first | omega | (simp <;> omega) | fail) only [push_cast, ↓reduceIte, Nat.reduceEqDiff, Nat.reduceAdd, Nat.reduceMul, Nat.reduceSub, Nat.reduceLT, Int.reduceToNat]))
  refine T_for (lI a).length (fun i e h' => Pins e [(0, eI a), (1, eI b), (5, .int .i64 i)] ∧ h' = h ∧ (lI a).take i = (lI b).take i) ?_ ?_
  · (try (simp (disch := first | omega | (simp <;> omega) | fail) only [push_cast, ↓reduceIte, Nat.reduceEqDiff, Nat.reduceAdd, Nat.reduceMul, Nat.reduceSub, Nat.reduceLT, Int.reduceToNat]))
    simp
  rintro i e h' hi ⟨hp, rfl, he⟩
  refine T_pins hp fun e => ?_
  (try (simp (disch := first | omega | (simp <;> omega) | fail) only [push_cast, ↓reduceIte, Nat.reduceEqDiff, Nat.reduceAdd, Nat.reduceMul, Nat.reduceSub, Nat.reduceLT, Int.reduceToNat]))
  first | refine goC_split (fun hc => ?_) (fun hc => ?_) | refine cnd_split (fun hc => ?_) (fun hc => ?_)
  · (try (simp only [decide_eq_true_eq, decide_eq_false_iff_not, Bool.not_eq_true', Bool.not_eq_false', Bool.and_eq_true, Bool.or_eq_true, Int.not_lt, Int.not_le] at hc)); (try (simp (disch := first | omega | (simp <;> omega) | fail) only [push_cast, ↓reduceIte, Nat.reduceEqDiff, Nat.reduceAdd, Nat.reduceMul, Nat.reduceSub, Nat.reduceLT, Int.reduceToNat]))
    have hi : i < (lI a).length := by omega
    (try (simp (disch := first | omega | (simp <;> omega) | fail) only [push_cast, ↓reduceIte, Nat.reduceEqDiff, Nat.reduceAdd, Nat.reduceMul, Nat.reduceSub, Nat.reduceLT, Int.reduceToNat]))
    first | refine goC_split (fun hc => ?_) (fun hc => ?_) | refine cnd_split (fun hc => ?_) (fun hc => ?_)
    · (try (simp only [decide_eq_true_eq, decide_eq_false_iff_not, Bool.not_eq_true', Bool.not_eq_false', Bool.and_eq_true, Bool.or_eq_true, Int.not_lt, Int.not_le] at hc)); (try (simp (disch := first | omega | (simp <;> omega) | fail) only [push_cast, ↓reduceIte, Nat.reduceEqDiff, Nat.reduceAdd, Nat.reduceMul, Nat.reduceSub, Nat.reduceLT, Int.reduceToNat]))
      congr 1
      symm
      rw [decide_eq_false_iff_not]
      intro he
      rw [he] at hc
      exact hc rfl
    · (try (simp only [decide_eq_true_eq, decide_eq_false_iff_not, Bool.not_eq_true', Bool.not_eq_false', Bool.and_eq_true, Bool.or_eq_true, Int.not_lt, Int.not_le] at hc)); (try (simp (disch := first | omega | (simp <;> omega) | fail) only [push_cast, ↓reduceIte, Nat.reduceEqDiff, Nat.reduceAdd, Nat.reduceMul, Nat.reduceSub, Nat.reduceLT, Int.reduceToNat]))
      have h1 : i < (lI b).length := by omega
      simp [hi, h1] at hc
      rw [List.take_add_one, List.take_add_one, he]
      simp [hi, h1, hc]
  · (try (simp only [decide_eq_true_eq, decide_eq_false_iff_not, Bool.not_eq_true', Bool.not_eq_false', Bool.and_eq_true, Bool.or_eq_true, Int.not_lt, Int.not_le] at hc)); (try (simp (disch := first | omega | (simp <;> omega) | fail) only [push_cast, ↓reduceIte, Nat.reduceEqDiff, Nat.reduceAdd, Nat.reduceMul, Nat.reduceSub, Nat.reduceLT, Int.reduceToNat]))
    have hi2 : i = (lI a).length := by omega
    congr 1
    symm
    rw [decide_eq_true_iff]
    rw [hi2, List.take_length] at he
    rw [he, hlen, List.take_length]

theorem c_laws_eqBits (b c : Bt) : Fn Tryz.prog 26 [eB b, eB c] (· = .bool (decide (b.size = c.size) && decide (lI b.words = lI c.words))) := by
  refine Fn.of free_bool fun h => ?_
  refine enter (by kernel_rfl) e26 (by kernel_rfl) rfl fun hok => ?_
  simp only [r26, initEnv_2]
  (try (simp (disch := first | omega | (simp <;> omega) | fail) only [push_cast, ↓reduceIte, Nat.reduceEqDiff, Nat.reduceAdd, Nat.reduceMul, Nat.reduceSub, Nat.reduceLT, Int.reduceToNat]))
  first | refine goC_split (fun hc => ?_) (fun hc => ?_) | refine cnd_split (fun hc => ?_) (fun hc => ?_)
  · (try (simp only [decide_eq_true_eq, decide_eq_false_iff_not, Bool.not_eq_true', Bool.not_eq_false', Bool.and_eq_true, Bool.or_eq_true, Int.not_lt, Int.not_le] at hc)); (try (simp (disch := first | omega | (simp <;> omega) | fail) only [push_cast, ↓reduceIte, Nat.reduceEqDiff, Nat.reduceAdd, Nat.reduceMul, Nat.reduceSub, Nat.reduceLT, Int.reduceToNat]))
  (try (simp only [decide_eq_true_eq, decide_eq_false_iff_not, Bool.not_eq_true', Bool.not_eq_false', Bool.and_eq_true, Bool.or_eq_true, Int.not_lt, Int.not_le] at hc)); (try (simp (disch := first | omega | (simp <;> omega) | fail) only [push_cast, ↓reduceIte, Nat.reduceEqDiff, Nat.reduceAdd, Nat.reduceMul, Nat.reduceSub, Nat.reduceLT, Int.reduceToNat]))
  refine (c_laws_eqIntS _ _).call ?_
  cases he : decide (lI b.words = lI c.words)
  · (try (simp (disch := first | omega | (simp <;> omega) | fail) only [push_cast, ↓reduceIte, Nat.reduceEqDiff, Nat.reduceAdd, Nat.reduceMul, Nat.reduceSub, Nat.reduceLT, Int.reduceToNat]))
    all_goals (try simp [hc])
  · (try (simp (disch := first | omega | (simp <;> omega) | fail) only [push_cast, ↓reduceIte, Nat.reduceEqDiff, Nat.reduceAdd, Nat.reduceMul, Nat.reduceSub, Nat.reduceLT, Int.reduceToNat]))
    all_goals (try simp [hc])

theorem c_laws_eqTrie (t : Tr) : Fn Tryz.prog 8 [eTr t, eTr t] (· = .bool true) := by
  refine Fn.of free_bool fun h => ?_
  refine enter (by kernel_rfl) e8 (by kernel_rfl) rfl fun hok => ?_
  simp only [r8, initEnv_2]
  have hb : ∀ b : Bt, Fn Tryz.prog 26 [eB b, eB b] (· = .bool true) := fun b => by
    have := c_laws_eqBits b b
    simpa using this
  (try (simp (disch := first | omega | (simp <;> omega) | fail) only [push_cast, ↓reduceIte, Nat.reduceEqDiff, Nat.reduceAdd, Nat.reduceMul, Nat.reduceSub, Nat.reduceLT, Int.reduceToNat]))
  refine (hb t.sh).call ?_
  (try (simp (disch := first | omega | (simp <;> omega) | fail) only [push_cast, ↓reduceIte, Nat.reduceEqDiff, Nat.reduceAdd, Nat.reduceMul, Nat.reduceSub, Nat.reduceLT, Int.reduceToNat]))
  refine (hb t.en).call ?_
  (try (simp (disch := first | omega | (simp <;> omega) | fail) only [push_cast, ↓reduceIte, Nat.reduceEqDiff, Nat.reduceAdd, Nat.reduceMul, Nat.reduceSub, Nat.reduceLT, Int.reduceToNat]))

def sh_FnExactLoadTrie : List Sh := [.str]
set_option maxHeartbeats 4000000 in
theorem law_FnExactLoadTrie (ys : List AV) (hy : ArgsFit sh_FnExactLoadTrie ys) : Call Tryz.prog 3 ys [] Nowhere (fun x _ => x = .bool true) := by
  obtain ⟨x1, y1, rfl, h1, hy⟩ := argsFit_cons hy
  obtain rfl := argsFit_nil hy
  obtain ⟨s, rfl, hsl⟩ := fit_str h1
  refine (?_ : ∀ h, Call Tryz.prog 3 [.str s] h Nowhere (fun x _ => x = .bool true)) []
  intro h
  refine enter (by kernel_rfl) e3 (by kernel_rfl) rfl fun hok => ?_
  simp only [r3, initEnv_1]
  (try (simp (disch := first | omega | (simp <;> omega) | fail) only [push_cast, ↓reduceIte, Nat.reduceEqDiff, Nat.reduceAdd, Nat.reduceMul, Nat.reduceSub, Nat.reduceLT, Int.reduceToNat]))
  first | refine goC_split (fun hc => ?_) (fun hc => ?_) | refine cnd_split (fun hc => ?_) (fun hc => ?_)
  · (try (simp only [decide_eq_true_eq, decide_eq_false_iff_not, Bool.not_eq_true', Bool.not_eq_false', Bool.and_eq_true, Bool.or_eq_true, Int.not_lt, Int.not_le] at hc)); (try (simp (disch := first | omega | (simp <;> omega) | fail) only [push_cast, ↓reduceIte, Nat.reduceEqDiff, Nat.reduceAdd, Nat.reduceMul, Nat.reduceSub, Nat.reduceLT, Int.reduceToNat]))
  (try (simp only [decide_eq_true_eq, decide_eq_false_iff_not, Bool.not_eq_true', Bool.not_eq_false', Bool.and_eq_true, Bool.or_eq_true, Int.not_lt, Int.not_le] at hc)); (try (simp (disch := first | omega | (simp <;> omega) | fail) only [push_cast, ↓reduceIte, Nat.reduceEqDiff, Nat.reduceAdd, Nat.reduceMul, Nat.reduceSub, Nat.reduceLT, Int.reduceToNat]))
  refine (c_spec_LoadTrie s).call ?_
  have himpl := c_impl_LoadTrie_o s (by omega)
  obtain ⟨hal, hah⟩ := ltA_len (s := s)
  unfold ltV at himpl ⊢
  generalize ltA s = a at *
  generalize ltq s = q at *
  have heqB := c_laws_eqTrie a
  have hea : eTr a = .agg [.int .i64 a.sh.size, eI a.sh.words, .int .i64 a.en.size, eI a.en.words, .str a.lab] := rfl
  (try (simp (disch := first | omega | (simp <;> omega) | fail) only [push_cast, ↓reduceIte, Nat.reduceEqDiff, Nat.reduceAdd, Nat.reduceMul, Nat.reduceSub, Nat.reduceLT, Int.reduceToNat]))
  refine himpl.go fun y t h1 hR hx1 how => ?_
  subst hR
  obtain ⟨g0, rfl, how2⟩ := ow_tup2 rfl how
  clear how
  obtain ⟨x5, x7, F5, F7, rfl, p5, p7, u5, u7, _⟩ := ow_trE how2
  obtain ⟨f1, f2⟩ := ow_eI p5
  obtain ⟨f3, f4⟩ := ow_eI p7
  clear p5 p7 u5 u7
  have hl1 := hx1.len
  simp only [List.length_append, List.length_cons, List.length_nil] at hl1 how2
  have hc1 : ∀ l, H.cells (h1 ++ l) h.length = some [.int .i64 a.sh.size, eI a.sh.words, .int .i64 a.en.size, eI a.en.words, .str a.lab] := fun l => cells_app (hx1.cells (by rw [cells_h0]; rfl))
  have how4 : Ow (h1 ++ [some (.cells [.int .i64 a.sh.size, x5, .int .i64 a.en.size, x7, .str a.lab])]) [.agg [.int .i64 a.sh.size, x5, .int .i64 a.en.size, x7, .str a.lab]] [eTr a] (Seg (h.length + 1) h1) := Ext.refl.app.ow how2
  clear how2
  (try (simp (disch := first | omega | (simp <;> omega) | fail) only [push_cast, ↓reduceIte, Nat.reduceEqDiff, Nat.reduceAdd, Nat.reduceMul, Nat.reduceSub, Nat.reduceLT, Int.reduceToNat, f1, f2, f3, f4, hc1]))
  refine heqB.lendL (.cons how4.vw0 (.free free_eTr .nil)) own_bool ?_
  (try (simp (disch := first | omega | (simp <;> omega) | fail) only [push_cast, ↓reduceIte, Nat.reduceEqDiff, Nat.reduceAdd, Nat.reduceMul, Nat.reduceSub, Nat.reduceLT, Int.reduceToNat, hc1]))
  refine (c_laws_markTrie _ a _ 1 _ how4 (fun c hc => by have := hc.2; simp; omega) (by omega) (by omega)).mono (fun x h4 hx => ?_) (fun c _ hc => Or.inr (by have := hc.1; omega))
  obtain ⟨rfl, hk2, how6⟩ := hx
  have hl4 := hk2.1
  simp only [List.length_append, List.length_cons, List.length_nil] at hl4
  have hc4 : ∀ l, H.cells (h4 ++ l) h.length = some [.int .i64 a.sh.size, eI a.sh.words, .int .i64 a.en.size, eI a.en.words, .str a.lab] := fun l => cells_app (cells_keep_ (hk2.2 _ (by simp; omega) fun hc => by have := hc.1; omega) (hc1 _))
  have hg4 : ∀ l, H.cells (h4 ++ l) h1.length = some [.int .i64 a.sh.size, x5, .int .i64 a.en.size, x7, .str a.lab] := fun l => cells_app (cells_keep_ (hk2.2 _ (by simp) fun hc => by have := hc.2; omega) (by rw [cells_h0]; rfl))
  have hg40 := hg4 []
  have hc40 := hc4 []
  rw [List.append_nil] at hg40 hc40
  have how7 : ∀ l, Ow (h4 ++ l) [.agg [.int .i64 a.sh.size, x5, .int .i64 a.en.size, x7, .str a.lab]] [eTr (mkTr 1 a)] (Seg (h.length + 1) h1) := fun l => how6.frame fun c hc => List.getElem?_append_left (by have := hc.2; omega)
  have hheld := c_laws_heldTrie a 1 (by omega) (by omega)
  (try (simp (disch := first | omega | (simp <;> omega) | fail) only [push_cast, ↓reduceIte, Nat.reduceEqDiff, Nat.reduceAdd, Nat.reduceMul, Nat.reduceSub, Nat.reduceLT, Int.reduceToNat, hg40]))
  refine hheld.lendL (.cons how6.vw0 (.free free_int .nil)) own_int ?_
  (try (simp (disch := first | omega | (simp <;> omega) | fail) only [push_cast, ↓reduceIte, Nat.reduceEqDiff, Nat.reduceAdd, Nat.reduceMul, Nat.reduceSub, Nat.reduceLT, Int.reduceToNat]))
  refine himpl.fn.call ?_
  (try (simp (disch := first | omega | (simp <;> omega) | fail) only [push_cast, ↓reduceIte, Nat.reduceEqDiff, Nat.reduceAdd, Nat.reduceMul, Nat.reduceSub, Nat.reduceLT, Int.reduceToNat, hc4]))
  refine heqB.call ?_
  (try (simp (disch := first | omega | (simp <;> omega) | fail) only [push_cast, ↓reduceIte, Nat.reduceEqDiff, Nat.reduceAdd, Nat.reduceMul, Nat.reduceSub, Nat.reduceLT, Int.reduceToNat, hg4]))
  refine hheld.lendL (.cons (how7 _).vw0 (.free free_int .nil)) own_int ?_
  (try (simp (disch := first | omega | (simp <;> omega) | fail) only [push_cast, ↓reduceIte, Nat.reduceEqDiff, Nat.reduceAdd, Nat.reduceMul, Nat.reduceSub, Nat.reduceLT, Int.reduceToNat]))

end Go.Proofs.YtakjemikampncaaGreatDoor.M
