/-
  What the functions return.
-/
import Derived.Test.YtgkdnpigbpkehaaFc
import Derived.Test.YtgkdnpigbpkehaaCb
namespace Go.Proofs.Ytgkdnpigbpkehaa.M
open Go Go.RowKit
set_option linter.unusedVariables false
set_option linter.unusedSimpArgs false
set_option maxRecDepth 4000

theorem OkE.nn {s : Sy} {n m : Nat} (ho : OkE s n m) : s.size.toNat = n := by
  rw [ho.sz]
  rfl
def nSy (s : Sy) : Nat := s.size.toNat
def linS (s : Sy) : List Nat := (stS s (nSy s) (lB s.rows).length).1
def linI (s : Sy) : List Nat := (stI s (nSy s) (lB s.rows).length).1
def refN (s : Sy) : Nat := (stS s (nSy s) (lB s.rows).length).2
theorem lin_sim (s : Sy) : Sim (nSy s) (stS s (nSy s) (lB s.rows).length) (stI s (nSy s) (lB s.rows).length) := stI_sim
theorem okE_n {s : Sy} (h : okSy s = true) : ∃ m, OkE s (nSy s) m := by
  obtain ⟨n, m, ho⟩ := okE_of h
  have := ho.nn
  unfold nSy
  rw [this]
  exact ⟨m, ho⟩
def rankV (s : Sy) : AV := if okSy s then .tup [.int .i64 (linS s).length, .bool true] else .tup [.int .i64 0, .bool false]
theorem rankV_tup (s : Sy) : ∃ n b, rankV s = .tup [.int .i64 n, .bool b] := by
  unfold rankV
  split <;> exact ⟨_, _, rfl⟩
theorem free_rankV {s : Sy} : Free (rankV s) := by
  obtain ⟨n, b, h⟩ := rankV_tup s
  rw [h]
  exact free_tup (free_cons_ free_int (free_cons_ free_bool free_nil_))

theorem at_bit64 {x j : Nat} (hx : x < 18446744073709551616) (hj : j < 64) : decide (bitsI .and .u64 (Int.fdiv (x : Int) (2 ^ (min j IntKind.u64.bits))) 1 = 1) = x.testBit j := by
  have h1 : min j IntKind.u64.bits = j := by
    simp [IntKind.bits]
    omega
  have h2 : Int.fdiv (x : Int) (2 ^ j) = ((x >>> j : Nat) : Int) := by
    rw [Nat.shiftRight_eq_div_pow]
    have : ((2 : Int) ^ j) = ((2 ^ j : Nat) : Int) := by simp
    rw [this]
    exact (Int.ofNat_fdiv x (2 ^ j)).symm
  have h3 : x >>> j ≤ x := Nat.shiftRight_le x j
  have h4 : bitsI .and .u64 ((x >>> j : Nat) : Int) ((1 : Nat) : Int) = ((x >>> j &&& 1 : Nat) : Int) := by
    have h5 : x >>> j &&& 1 ≤ 1 := Nat.and_le_right
    show IntKind.u64.wrap ((BitVec.ofInt 64 ((x >>> j : Nat) : Int) &&& BitVec.ofInt 64 ((1 : Nat) : Int)).toNat : Int) = _
    rw [ofInt_nat, ofInt_nat, BitVec.toNat_and, BitVec.toNat_ofNat, BitVec.toNat_ofNat, Nat.mod_eq_of_lt (by omega), Nat.mod_eq_of_lt (by omega)]
    exact u64_nat (by omega)
  rw [h1, h2]
  rw [show ((1 : Nat) : Int) = 1 from rfl] at h4
  rw [h4, Nat.and_one_is_mod, Nat.testBit_eq_decide_div_mod_eq, Nat.shiftRight_eq_div_pow, decide_eq_decide]
  omega
def setTo (M i : Nat) : List Int := ((List.range i).filter fun j => M.testBit j).map fun j : Nat => (j : Int)
theorem setTo_all {M : Nat} : setTo M 64 = setL M := rfl
theorem setTo_succ {M i : Nat} : setTo M (i + 1) = if M.testBit i = true then setTo M i ++ [(i : Int)] else setTo M i := by
  unfold setTo
  rw [List.range_succ, List.filter_append, List.map_append]
  cases h : M.testBit i <;> simp [h]
theorem setTo_len {M i : Nat} : (setTo M i).length ≤ i := by
  unfold setTo
  rw [List.length_map]
  exact Nat.le_trans (List.length_filter_le _ _) (by simp)

theorem ow_sys {h : H} {x : AV} {z : Int} {l : List Bt} {q : List Bool} {G : Nat → Prop} (ho : Ow h [x] [eSy ⟨z, some l, some q⟩] G) : ∃ b1 b2, x = .agg [.int .i64 z, .sl b1 0 2 l.length l.length, .sl b2 0 1 q.length q.length] := by
  obtain ⟨cs, rfl, h1⟩ := Ow.openAgg (show Ow h [x] [.agg [.int .i64 z, eBS (some l), eO (some q)]] G from ho)
  have hl : cs.length = 3 := h1.len.symm
  match cs, hl, h1 with
  | [x1, x2, x3], _, h1 =>
    obtain ⟨F, F', f1, f2, f3, f4⟩ := h1.uncons
    obtain ⟨A, B, a1, a2, a3, a4⟩ := f2.uncons
    have e1 : x1 = .int .i64 z := f1.atomOf rfl
    obtain ⟨b1, e2⟩ := Ow.sl1 (show Ow h [x2] [.ro 2 _ _] A from a1)
    obtain ⟨b2, e3⟩ := Ow.sl1 (show Ow h [x3] [.ro 1 _ _] B from a2)
    subst e1 e2 e3
    exact ⟨b1, b2, rfl⟩
theorem ow_ints {h : H} {x : AV} {a : Option (List Int)} {G : Nat → Prop} (ho : Ow h [x] [eI a] G) : one x = true ∧ cellsOf x = [x] := by
  cases a with
  | none => have : x = .nils := ho.atomOf rfl; rw [this]; exact ⟨rfl, rfl⟩
  | some l => obtain ⟨b, e⟩ := Ow.sl1 (show Ow h [x] [.ro 1 _ _] G from ho); rw [e]; exact ⟨rfl, rfl⟩
theorem ow_tup2 {h : H} {x t1 : AV} {q : Bool} {G : Nat → Prop} (ho : Ow h [x] [.tup [t1, .bool q]] G) : ∃ y, x = .tup [y, .bool q] ∧ Ow h [y] [t1] G := by
  obtain ⟨cs, rfl, h1⟩ := ho.openTup
  have hl : cs.length = 2 := h1.len.symm
  match cs, hl, h1 with
  | [x1, x2], _, h1 =>
    obtain ⟨F, F', f1, f2, f3, f4⟩ := h1.uncons
    have e2 : x2 = .bool q := f2.atomOf rfl
    subst e2
    exact ⟨x1, rfl, f1.mono f3⟩
theorem offB_cp {s : Sy} : offB (lB (cpSy s).rows) + (lO (cpSy s).right).length = wSy s := by
  unfold wSy wBS offB cpSy
  simp only [lB, lO, List.map_map]
  have : ∀ l : List Bt, (l.map ((fun b : Bt => 1 + (lI b.words).length) ∘ cpB)).sum = l.length + (l.map fun p => (lI p.words).length).sum := fun l => by
    induction l with
    | nil => rfl
    | cons a l ih =>
      simp only [List.map_cons, List.sum_cons, List.length_cons, ih, Function.comp]
      have : (lI (cpB a).words).length = (lI a.words).length := rfl
      omega
  rw [this]

def freeTo (L : List Nat) (n i : Nat) : List Int := ((List.range i).filter fun c => !(decide (c ∈ L.map (lead n)))).map fun j : Nat => (j : Int)
theorem freeTo_succ {L : List Nat} {n i : Nat} : freeTo L n (i + 1) = if i ∈ L.map (lead n) then freeTo L n i else freeTo L n i ++ [(i : Int)] := by
  unfold freeTo
  rw [List.range_succ, List.filter_append, List.map_append]
  by_cases h : i ∈ L.map (lead n)
  · rw [if_pos h]
    simp only [List.filter_cons, decide_eq_true h, List.filter_nil]
    simp
  · rw [if_neg h]
    simp only [List.filter_cons, decide_eq_false h, List.filter_nil]
    simp
theorem freeTo_len {L : List Nat} {n i : Nat} : (freeTo L n i).length ≤ i := by
  unfold freeTo
  rw [List.length_map]
  exact Nat.le_trans (List.length_filter_le _ _) (by simp)
theorem freeTo_congr {L M : List Nat} {n i : Nat} (h : ∀ c, c ∈ L.map (lead n) ↔ c ∈ M.map (lead n)) : freeTo L n i = freeTo M n i := by
  unfold freeTo
  congr 1
  refine List.filter_congr fun c _ => ?_
  rw [decide_eq_decide.2 (h c)]
def leadsL (n : Nat) (L : List Nat) : List Int := L.map fun l => (lead n l : Int)
theorem leadsL_mem {n : Nat} {L : List Nat} {c : Nat} : (c : Int) ∈ leadsL n L ↔ c ∈ L.map (lead n) := by
  unfold leadsL
  simp only [List.mem_map]
  constructor
  · rintro ⟨l, hl, he⟩
    exact ⟨l, hl, by omega⟩
  · rintro ⟨l, hl, he⟩
    exact ⟨l, hl, by omega⟩
theorem S1.vwI0 {h : H} {n0 n : Nat} {v : AV} {l : List Int} {B : List Nat} (hs : S1 h 1 v n (l.map (.int .i64)) B) (hb : ∀ b ∈ B, n0 ≤ b) : ∃ o, Vw h n0 v (eI o) ∧ lI o = l := by
  by_cases hn : v = .nils
  · subst hn
    rcases hs.2 with ⟨_, h0, _⟩ | ⟨b, hh, _⟩
    · have hl : l = [] := List.eq_nil_of_length_eq_zero (by have := hs.1; simp at this; omega)
      exact ⟨none, .free free_nils, hl.symm⟩
    · cases hh
  · exact ⟨some l, hs.vwI hb hn, rfl⟩
theorem optL_cases {l : List Int} : (l = [] ∧ eI (optL l) = .nils) ∨ (l ≠ [] ∧ optL l = some l) := by
  unfold optL
  by_cases h : l = []
  · exact .inl ⟨h, by rw [if_pos h]; rfl⟩
  · exact .inr ⟨h, if_neg h⟩
theorem S1.vwO {h : H} {n0 n : Nat} {v : AV} {l : List Int} {B : List Nat} (hs : S1 h 1 v n (l.map (.int .i64)) B) (hb : ∀ b ∈ B, n0 ≤ b) (hn : v = .nils ↔ l = []) : Vw h n0 v (eI (optL l)) := by
  rcases optL_cases (l := l) with ⟨h1, h2⟩ | ⟨h1, h2⟩
  · rw [h2, hn.2 h1]
    exact .free free_nils
  · rw [h2]
    exact hs.vwI hb fun h3 => h1 (hn.1 h3)
def freeN (s : Sy) : List Int := freeTo (linS s) (nSy s) (nSy s)
theorem freeN_len {s : Sy} {n m : Nat} (ho : OkE s n m) : (freeN s).length ≤ 72 := by
  have h1 := freeTo_len (L := linS s) (n := nSy s) (i := nSy s)
  have h2 := ho.nn
  have h3 := ho.n2
  unfold freeN
  unfold nSy at *
  omega

set_option maxHeartbeats 1000000 in
theorem c_spec_reFree (s : Sy) (m : Nat) (ho : OkE s (nSy s) m) : Fn Try.prog 75 [eSy s] (· = eI (optL (freeN s))) := by
  refine Fn.froze_ fun h => ?_
  unfold freeN
  refine enter (by kernel_rfl) e75 (by kernel_rfl) rfl fun hok => ?_
  simp only [r75, initEnv_1]
  have hsz := ho.sz
  have hn2 := ho.n2
  have hm := ho.hm
  have hnr := ho.nr
  have hlen := stS_len (s := s) (n := nSy s) (i := (lB s.rows).length)
  have hlt := (lin_sim s).es.lt
  (try (simp (disch := first | omega | (simp <;> omega) | fail) only [push_cast, ↓reduceIte, Nat.reduceEqDiff, Nat.reduceAdd, Nat.reduceMul, Nat.reduceSub, Nat.reduceLT, Int.reduceToNat]))
  refine (c_spec_reLines s _ m ho).call ?_
  unfold linesV
  have hL : (stS s (nSy s) (lB s.rows).length).1 = linS s := rfl
  rw [hL] at hlen hlt
  rw [hL]
  generalize nSy s = n at *
  generalize linS s = L at *
  clear hL
  (try (simp (disch := first | omega | (simp <;> omega) | fail) only [push_cast, ↓reduceIte, Nat.reduceEqDiff, Nat.reduceAdd, Nat.reduceMul, Nat.reduceSub, Nat.reduceLT, Int.reduceToNat, lenA_eLs, lL_optN]))
  refine T_for L.length (fun i e h' => ∃ v B, Pins e [(1, .adr h.length 0), (5, v), (6, .nils), (15, eLs n m (optN L)), (16, .int .i64 L.length), (17, .int .i64 i)] ∧ h'.cells h.length = some [.int .i64 n, eBS s.rows, eO s.right] ∧ S1 h' 1 v i ((leadsL n (L.take i)).map (.int .i64)) B ∧ (∀ b ∈ B, h.length < b)) ?_ ?_
  · (try (simp (disch := first | omega | (simp <;> omega) | fail) only [push_cast, ↓reduceIte, Nat.reduceEqDiff, Nat.reduceAdd, Nat.reduceMul, Nat.reduceSub, Nat.reduceLT, Int.reduceToNat, hsz]))
    exact ⟨_, [], rfl, by simpa [leadsL] using S1.nil, by simp⟩
  rintro i e h' hi ⟨v, B, hp, hb, hs, hB⟩
  refine T_pins hp fun e => ?_
  have hbl := cells_lt hb
  (try (simp (disch := first | omega | (simp <;> omega) | fail) only [push_cast, ↓reduceIte, Nat.reduceEqDiff, Nat.reduceAdd, Nat.reduceMul, Nat.reduceSub, Nat.reduceLT, Int.reduceToNat]))
  first | refine goC_split (fun hc => ?_) (fun hc => ?_) | refine cnd_split (fun hc => ?_) (fun hc => ?_)
  · (try (simp only [decide_eq_true_eq, decide_eq_false_iff_not, Bool.not_eq_true', Bool.not_eq_false', Bool.and_eq_true, Bool.or_eq_true, Int.not_lt, Int.not_le] at hc)); (try (simp (disch := first | omega | (simp <;> omega) | fail) only [push_cast, ↓reduceIte, Nat.reduceEqDiff, Nat.reduceAdd, Nat.reduceMul, Nat.reduceSub, Nat.reduceLT, Int.reduceToNat]))
    have hi2 : i < L.length := by omega
    have hmem := getD_mem (d := 0) hi2
    have hll := hlt _ hmem
    have htk : leadsL n (L.take (i + 1)) = leadsL n (L.take i) ++ [(lead n (L.getD i 0) : Int)] := by
      have h1 : L[i]?.toList = [L.getD i 0] := by simp [hi2]
      unfold leadsL
      rw [List.take_add_one, h1, List.map_append]
      rfl
    have hia : iaddrA 4 (eLs n m (optN L)) (.int .i64 (i : Int)) = some (.rad (L.flatMap (cLn n m)) (i * 4)) := by
      rw [iaddr_eLs (by omega) (by rw [lL_optN]; omega), lL_optN]
      rfl
    have hld := ld_Ln (n := n) (m := m) hi2
    generalize L.getD i 0 = X at *
    have hcx : cLn n m X = [.int .i64 n, eI (some (wordsN (X % 2 ^ n) m)), .bool (X.testBit n), eI (optL (setL (X >>> (n + 1))))] := rfl
    rw [hcx] at hld
    have hli : leadI n X = (lead n X : Int) := if_pos hll
    (try (simp (disch := first | omega | (simp <;> omega) | fail) only [push_cast, ↓reduceIte, Nat.reduceEqDiff, Nat.reduceAdd, Nat.reduceMul, Nat.reduceSub, Nat.reduceLT, Int.reduceToNat, hia, hld]))
    refine (c_spec_reFirst2 (some (wordsN (X % 2 ^ n) m)) n m (X % 2 ^ n) rfl (by omega) (by omega)).call ?_
    rw [leadI_mod, hli]
    (try (simp (disch := first | omega | (simp <;> omega) | fail) only [push_cast, ↓reduceIte, Nat.reduceEqDiff, Nat.reduceAdd, Nat.reduceMul, Nat.reduceSub, Nat.reduceLT, Int.reduceToNat]))
    refine (hs.frame (h' := h' ++ _) fun c hc => List.getElem?_append_left (hs.lt c hc)).app0 (new := [.int .i64 (lead n X : Int)]) (k := 1) (by_ := 8) (fun b hb => Or.inr (by have := hB b hb; omega)) rfl (by omega) fun v2 h2 B2 c1 c2 c3 c4 c5 => ?_
    simp only [List.length_append, List.length_cons, List.length_nil] at c2 c3
    have hb2 : h2.cells h.length = some [.int .i64 n, eBS s.rows, eO s.right] := cells_keep_ ((c3 _ (by omega) fun hh => absurd (hB _ hh) (by omega)).trans (List.getElem?_append_left hbl)) hb
    have c1' : S1 h2 1 v2 (i + 1) ((leadsL n (L.take (i + 1))).map (.int .i64)) B2 := by
      rw [htk]
      simpa using c1
    have hB2 : ∀ b ∈ B2, h.length < b := fun b hb => by
      rcases c4 b hb with h5 | h5
      · exact hB b h5
      · simp at h5
        omega
    (try (simp (disch := first | omega | (simp <;> omega) | fail) only [push_cast, ↓reduceIte, Nat.reduceEqDiff, Nat.reduceAdd, Nat.reduceMul, Nat.reduceSub, Nat.reduceLT, Int.reduceToNat]))
    all_goals (try exact ⟨_, B2, rfl, hb2, c1', hB2⟩)
  · (try (simp only [decide_eq_true_eq, decide_eq_false_iff_not, Bool.not_eq_true', Bool.not_eq_false', Bool.and_eq_true, Bool.or_eq_true, Int.not_lt, Int.not_le] at hc)); (try (simp (disch := first | omega | (simp <;> omega) | fail) only [push_cast, ↓reduceIte, Nat.reduceEqDiff, Nat.reduceAdd, Nat.reduceMul, Nat.reduceSub, Nat.reduceLT, Int.reduceToNat]))
    have hie : i = L.length := by omega
    subst hie
    rw [List.take_length] at hs
    obtain ⟨o, hvo, hlo⟩ := hs.vwI0 (n0 := 0) fun _ _ => Nat.zero_le _
    have hsB := hs.lt
    (try (simp (disch := first | omega | (simp <;> omega) | fail) only [push_cast, ↓reduceIte, Nat.reduceEqDiff, Nat.reduceAdd, Nat.reduceMul, Nat.reduceSub, Nat.reduceLT, Int.reduceToNat]))
    refine T_for n (fun i e h2 => ∃ w C, Pins e [(1, .adr h.length 0), (5, v), (6, w), (9, .int .i64 i)] ∧ h'.length ≤ h2.length ∧ (∀ c, c < h'.length → h2[c]? = h'[c]?) ∧ S1 h2 1 w (freeTo L n i).length ((freeTo L n i).map (.int .i64)) C ∧ (∀ b ∈ C, h'.length ≤ b) ∧ (w = .nils ↔ freeTo L n i = [])) ?_ ?_
    · (try (simp (disch := first | omega | (simp <;> omega) | fail) only [push_cast, ↓reduceIte, Nat.reduceEqDiff, Nat.reduceAdd, Nat.reduceMul, Nat.reduceSub, Nat.reduceLT, Int.reduceToNat]))
      all_goals (try exact ⟨_, [], rfl, fun _ _ => trivial, by simpa [freeTo] using S1.nil, by simp, by simp [freeTo]⟩)
    clear hp
    rintro i e h2 hi ⟨w, C, hp, hl2, hk2, ht, hC, hwn⟩
    refine T_pins hp fun e => ?_
    have hb2 := cells_keep_ (hk2 _ hbl) hb
    (try (simp (disch := first | omega | (simp <;> omega) | fail) only [push_cast, ↓reduceIte, Nat.reduceEqDiff, Nat.reduceAdd, Nat.reduceMul, Nat.reduceSub, Nat.reduceLT, Int.reduceToNat, hb2]))
    first | refine goC_split (fun hd => ?_) (fun hd => ?_) | refine cnd_split (fun hd => ?_) (fun hd => ?_)
    · (try (simp only [decide_eq_true_eq, decide_eq_false_iff_not, Bool.not_eq_true', Bool.not_eq_false', Bool.and_eq_true, Bool.or_eq_true, Int.not_lt, Int.not_le] at hd)); (try (simp (disch := first | omega | (simp <;> omega) | fail) only [push_cast, ↓reduceIte, Nat.reduceEqDiff, Nat.reduceAdd, Nat.reduceMul, Nat.reduceSub, Nat.reduceLT, Int.reduceToNat]))
      have hin : i < n := by omega
      have hfs := freeTo_succ (L := L) (n := n) (i := i)
      have hfl := freeTo_len (L := L) (n := n) (i := i)
      have hs2 := hs.frame (h' := h2) fun c hc => hk2 c (hsB c hc)
      obtain ⟨o2, hvo2, hlo2⟩ := hs2.vwI0 (n0 := 0) fun _ _ => Nat.zero_le _
      (try (simp (disch := first | omega | (simp <;> omega) | fail) only [push_cast, ↓reduceIte, Nat.reduceEqDiff, Nat.reduceAdd, Nat.reduceMul, Nat.reduceSub, Nat.reduceLT, Int.reduceToNat]))
      refine (c_spec_l1Has o2 (i : Int)).lendL (.cons hvo2 (.free free_int .nil)) own_bool ?_
      rw [hlo2, decide_eq_decide.2 (leadsL_mem (n := n) (L := L) (c := i))]
      by_cases hm2 : i ∈ L.map (lead n)
      · rw [if_pos hm2] at hfs
        rw [decide_eq_true hm2]
        (try (simp (disch := first | omega | (simp <;> omega) | fail) only [push_cast, ↓reduceIte, Nat.reduceEqDiff, Nat.reduceAdd, Nat.reduceMul, Nat.reduceSub, Nat.reduceLT, Int.reduceToNat]))
        all_goals (try exact ⟨_, C, rfl, hl2, hk2, by rw [hfs]; exact ht, hC, by rw [hfs]; exact hwn⟩)
        all_goals (try exact ⟨_, C, rfl, hk2, by rw [hfs]; exact ht, hC, by rw [hfs]; exact hwn⟩)
      · rw [if_neg hm2] at hfs
        rw [decide_eq_false hm2]
        (try (simp (disch := first | omega | (simp <;> omega) | fail) only [push_cast, ↓reduceIte, Nat.reduceEqDiff, Nat.reduceAdd, Nat.reduceMul, Nat.reduceSub, Nat.reduceLT, Int.reduceToNat]))
        refine (ht.frame (h' := h2 ++ _) fun c hc => List.getElem?_append_left (ht.lt c hc)).app0 (new := [.int .i64 (i : Int)]) (k := 1) (by_ := 8) (fun b hb => Or.inr (by have := hC b hb; omega)) rfl (by omega) fun v2 h3 B2 c1 c2 c3 c4 c5 => ?_
        simp only [List.length_append, List.length_cons, List.length_nil] at c2 c3
        have c1' : S1 h3 1 v2 (freeTo L n (i + 1)).length ((freeTo L n (i + 1)).map (.int .i64)) B2 := by
          rw [hfs]
          simpa using c1
        have hk3 : ∀ c, c < h'.length → h3[c]? = h'[c]? := fun c hc => (c3 c (by omega) fun hh => absurd (hC _ hh) (by omega)).trans ((List.getElem?_append_left (by omega)).trans (hk2 c hc))
        have hC2 : ∀ b ∈ B2, h'.length ≤ b := fun b hb => by
          rcases c4 b hb with h5 | h5
          · exact hC b h5
          · simp at h5
            omega
        have hnn : v2 = .nils ↔ freeTo L n (i + 1) = [] := by
          rw [hfs]
          constructor
          · intro h5
            subst h5
            rcases c1.2 with ⟨_, h6, _⟩ | ⟨b, h6, _⟩
            · omega
            · cases h6
          · intro h5
            simp at h5
        (try (simp (disch := first | omega | (simp <;> omega) | fail) only [push_cast, ↓reduceIte, Nat.reduceEqDiff, Nat.reduceAdd, Nat.reduceMul, Nat.reduceSub, Nat.reduceLT, Int.reduceToNat]))
        all_goals (try exact ⟨_, B2, rfl, by omega, hk3, c1', hC2, hnn⟩)
        all_goals (try exact ⟨_, B2, rfl, hk3, c1', hC2, hnn⟩)
    · (try (simp only [decide_eq_true_eq, decide_eq_false_iff_not, Bool.not_eq_true', Bool.not_eq_false', Bool.and_eq_true, Bool.or_eq_true, Int.not_lt, Int.not_le] at hd)); (try (simp (disch := first | omega | (simp <;> omega) | fail) only [push_cast, ↓reduceIte, Nat.reduceEqDiff, Nat.reduceAdd, Nat.reduceMul, Nat.reduceSub, Nat.reduceLT, Int.reduceToNat]))
      have hin : i = n := by omega
      subst hin
      (try (simp (disch := first | omega | (simp <;> omega) | fail) only [push_cast, ↓reduceIte, Nat.reduceEqDiff, Nat.reduceAdd, Nat.reduceMul, Nat.reduceSub, Nat.reduceLT, Int.reduceToNat]))
      exact ⟨_, ht.vwO (fun b hb => by have := hC b hb; omega) hwn, rfl⟩

def freeOV (s : Sy) (q : Bool) : AV := if okSy s then .tup [eI (if q then some (freeN s) else optL (freeN s)), .bool true] else .tup [.nils, .bool false]
theorem free_freeOV {s : Sy} {q : Bool} : Free (freeOV s q) := by
  unfold freeOV
  split
  · exact free_tup (free_cons_ free_eI (free_cons_ free_bool free_nil_))
  · exact free_tup (free_cons_ free_nils (free_cons_ free_bool free_nil_))
theorem c_spec_FreeColumns (s : Sy) : Fn Try.prog 31 [eSy s] (· = freeOV s false) := by
  refine Fn.of free_freeOV fun h => ?_
  refine enter (by kernel_rfl) e31 (by kernel_rfl) rfl fun hok => ?_
  simp only [r31, initEnv_1]
  (try (simp (disch := first | omega | (simp <;> omega) | fail) only [push_cast, ↓reduceIte, Nat.reduceEqDiff, Nat.reduceAdd, Nat.reduceMul, Nat.reduceSub, Nat.reduceLT, Int.reduceToNat]))
  refine (c_spec_reGood s).call ?_
  unfold freeOV
  cases hk : okSy s
  · (try (simp (disch := first | omega | (simp <;> omega) | fail) only [push_cast, ↓reduceIte, Nat.reduceEqDiff, Nat.reduceAdd, Nat.reduceMul, Nat.reduceSub, Nat.reduceLT, Int.reduceToNat]))
    all_goals (try rfl)
  obtain ⟨m, ho⟩ := okE_n hk
  (try (simp (disch := first | omega | (simp <;> omega) | fail) only [push_cast, ↓reduceIte, Nat.reduceEqDiff, Nat.reduceAdd, Nat.reduceMul, Nat.reduceSub, Nat.reduceLT, Int.reduceToNat]))
  refine (c_spec_reFree s m ho).call ?_
  (try (simp (disch := first | omega | (simp <;> omega) | fail) only [push_cast, ↓reduceIte, Nat.reduceEqDiff, Nat.reduceAdd, Nat.reduceMul, Nat.reduceSub, Nat.reduceLT, Int.reduceToNat]))

theorem all_take {f : Nat → Bool} {l : List Nat} {i : Nat} (hi : i < l.length) : (l.take (i + 1)).all f = ((l.take i).all f && f (l.getD i 0)) := by
  rw [List.take_add_one, List.all_append]
  simp [hi]
theorem all_no {f : Nat → Bool} {l : List Nat} {i : Nat} (hi : i < l.length) (hf : f (l.getD i 0) = false) : l.all f = false := by
  rw [List.all_eq_false]
  exact ⟨l.getD i 0, by simp [hi], by rw [hf]; simp⟩
theorem c_IndexFunc_Eq (n m : Nat) (L : List Nat) (f b0 : Nat) (cs : List AV) (g : Nat → Bool) (hL : L.length ≤ 1000) (hg : ∀ X, Fn Try.prog f [.agg (cQ n m X), .rad cs 0] (· = .bool (g X))) (hfree : ∀ c ∈ cs, Free c) (h : H) (hb : h.cells b0 = some cs) :
    Call Try.prog 122 [eQs n m (optN L), .fn f [.adr b0 0]] h Nowhere (fun x h' => (∃ k : Int, x = .int .i64 k ∧ decide (0 ≤ k) = !(L.all fun m => !g m)) ∧ h' = h) := by
  refine Call.gc (Call.mono (?_ : Call Try.prog 122 [eQs n m (optN L), .fn f [.adr b0 0]] h Nowhere (fun x _ => ∃ k : Int, x = .int .i64 k ∧ decide (0 ≤ k) = !(L.all fun m => !g m))) (fun x _ ⟨n, hn, hx⟩ => ⟨⟨n, hn, hx⟩, by rw [hn]; exact free_int⟩) (fun _ _ h => h))
  refine enter (by kernel_rfl) e122 (by kernel_rfl) rfl fun hok => ?_
  simp only [r122, initEnv_2]
  (try (simp (disch := first | omega | (simp <;> omega) | fail) only [push_cast, ↓reduceIte, Nat.reduceEqDiff, Nat.reduceAdd, Nat.reduceMul, Nat.reduceSub, Nat.reduceLT, Int.reduceToNat, lenA_eQs, lL_optN]))
  refine T_for L.length (fun i e h' => Pins e [(0, eQs n m (optN L)), (1, .fn f [.adr b0 0]), (7, .int .i64 L.length), (8, .int .i64 i)] ∧ h' = h ∧ (L.take i).all (fun m => !g m) = true) ?_ ?_
  · (try (simp (disch := first | omega | (simp <;> omega) | fail) only [push_cast, ↓reduceIte, Nat.reduceEqDiff, Nat.reduceAdd, Nat.reduceMul, Nat.reduceSub, Nat.reduceLT, Int.reduceToNat]))
    all_goals (try simp)
  rintro i e h' hi ⟨hp, rfl, ha⟩
  refine T_pins hp fun e => ?_
  (try (simp (disch := first | omega | (simp <;> omega) | fail) only [push_cast, ↓reduceIte, Nat.reduceEqDiff, Nat.reduceAdd, Nat.reduceMul, Nat.reduceSub, Nat.reduceLT, Int.reduceToNat]))
  first | refine goC_split (fun hc => ?_) (fun hc => ?_) | refine cnd_split (fun hc => ?_) (fun hc => ?_)
  · (try (simp only [decide_eq_true_eq, decide_eq_false_iff_not, Bool.not_eq_true', Bool.not_eq_false', Bool.and_eq_true, Bool.or_eq_true, Int.not_lt, Int.not_le] at hc)); (try (simp (disch := first | omega | (simp <;> omega) | fail) only [push_cast, ↓reduceIte, Nat.reduceEqDiff, Nat.reduceAdd, Nat.reduceMul, Nat.reduceSub, Nat.reduceLT, Int.reduceToNat]))
    have hi2 : i < L.length := by omega
    have hia : iaddrA 4 (eQs n m (optN L)) (.int .i64 (i : Int)) = some (.rad (L.flatMap (cQ n m)) (i * 4)) := by
      rw [iaddr_eQs (by omega) (by rw [lL_optN]; omega), lL_optN]
      rfl
    have hld := ld_Q (n := n) (m := m) hi2
    (try (simp (disch := first | omega | (simp <;> omega) | fail) only [push_cast, ↓reduceIte, Nat.reduceEqDiff, Nat.reduceAdd, Nat.reduceMul, Nat.reduceSub, Nat.reduceLT, Int.reduceToNat, hia, hld]))
    refine (hg _).lendL (.free (free_agg free_cQ) (.adr hb hfree .nil)) own_bool ?_
    have hn := all_take (f := fun m => !g m) hi2
    cases hk : g (L.getD i 0)
    · (try (simp (disch := first | omega | (simp <;> omega) | fail) only [push_cast, ↓reduceIte, Nat.reduceEqDiff, Nat.reduceAdd, Nat.reduceMul, Nat.reduceSub, Nat.reduceLT, Int.reduceToNat]))
      rw [hn, ha, hk]
      all_goals (try rfl)
    · (try (simp (disch := first | omega | (simp <;> omega) | fail) only [push_cast, ↓reduceIte, Nat.reduceEqDiff, Nat.reduceAdd, Nat.reduceMul, Nat.reduceSub, Nat.reduceLT, Int.reduceToNat]))
      refine ⟨_, rfl, ?_⟩
      rw [all_no (f := fun m => !g m) hi2 (by rw [hk]; rfl)]
      simp
  · (try (simp only [decide_eq_true_eq, decide_eq_false_iff_not, Bool.not_eq_true', Bool.not_eq_false', Bool.and_eq_true, Bool.or_eq_true, Int.not_lt, Int.not_le] at hc)); (try (simp (disch := first | omega | (simp <;> omega) | fail) only [push_cast, ↓reduceIte, Nat.reduceEqDiff, Nat.reduceAdd, Nat.reduceMul, Nat.reduceSub, Nat.reduceLT, Int.reduceToNat]))
    have : L.take i = L := List.take_of_length_le (by omega)
    rw [this] at ha
    refine ⟨_, rfl, ?_⟩
    rw [ha]
    rfl

theorem c_ContainsFunc_Eq (n m : Nat) (L : List Nat) (f b0 : Nat) (cs : List AV) (g : Nat → Bool) (hL : L.length ≤ 1000) (hg : ∀ X, Fn Try.prog f [.agg (cQ n m X), .rad cs 0] (· = .bool (g X))) (hfree : ∀ c ∈ cs, Free c) (h : H) (hb : h.cells b0 = some cs) :
    Call Try.prog 108 [eQs n m (optN L), .fn f [.adr b0 0]] h Nowhere (fun x h' => x = .bool (!(L.all fun m => !g m)) ∧ h' = h) := by
  refine Call.gc (Call.mono (?_ : Call Try.prog 108 [eQs n m (optN L), .fn f [.adr b0 0]] h Nowhere (fun x _ => x = .bool (!(L.all fun m => !g m)))) (fun x _ hx => ⟨hx, by rw [hx]; exact free_bool⟩) (fun _ _ h => h))
  refine enter (by kernel_rfl) e108 (by kernel_rfl) rfl fun hok => ?_
  simp only [r108, initEnv_2]
  (try (simp (disch := first | omega | (simp <;> omega) | fail) only [push_cast, ↓reduceIte, Nat.reduceEqDiff, Nat.reduceAdd, Nat.reduceMul, Nat.reduceSub, Nat.reduceLT, Int.reduceToNat]))
  refine (c_IndexFunc_Eq n m L f b0 cs g hL hg hfree h hb).mono (fun x h' hx => ?_) (fun _ _ h => h.elim)
  obtain ⟨⟨n, rfl, hn⟩, rfl⟩ := hx
  rw [← hn]
  (try (simp (disch := first | omega | (simp <;> omega) | fail) only [push_cast, ↓reduceIte, Nat.reduceEqDiff, Nat.reduceAdd, Nat.reduceMul, Nat.reduceSub, Nat.reduceLT, Int.reduceToNat]))
  (first | refine goC_split (fun hc => ?_) (fun hc => ?_) | refine cnd_split (fun hc => ?_) (fun hc => ?_)) <;> ((try (simp (disch := first | omega | (simp <;> omega) | fail) only [push_cast, ↓reduceIte, Nat.reduceEqDiff, Nat.reduceAdd, Nat.reduceMul, Nat.reduceSub, Nat.reduceLT, Int.reduceToNat]))) <;> (try rw [hc])

theorem c_impl_free_1 (n m X : Nat) (c : Int) (hm : n ≤ 16 * m) (hm2 : m ≤ 100000) : Fn Try.prog 109 [.agg (cQ n m X), .rad [.int .i64 c] 0] (· = .bool (decide ((lead n X : Int) = c))) := by
  refine Fn.of free_bool fun h => ?_
  refine enter (by kernel_rfl) e109 (by kernel_rfl) rfl fun hok => ?_
  simp only [r109, initEnv_2]
  have hX := c_impl_Bits_next2 (some (wordsN (X % 2 ^ n) m)) n (X % 2 ^ n) m (cQ n m X) 0 rfl rfl rfl hm hm2
  rw [lead_mod] at hX
  have oX : (cQ n m X).all one = true := rfl
  (try (simp (disch := first | omega | (simp <;> omega) | fail) only [push_cast, ↓reduceIte, Nat.reduceEqDiff, Nat.reduceAdd, Nat.reduceMul, Nat.reduceSub, Nat.reduceLT, Int.reduceToNat, oX]))
  refine hX.lendL ?_ own_int ?_
  · exact .adr (cs := cQ n m X) (by rw [cells_h0]; rfl) free_cQ (.free free_int (.free free_bool .nil))
  (try (simp (disch := first | omega | (simp <;> omega) | fail) only [push_cast, ↓reduceIte, Nat.reduceEqDiff, Nat.reduceAdd, Nat.reduceMul, Nat.reduceSub, Nat.reduceLT, Int.reduceToNat]))
  (first | refine goC_split (fun hc => ?_) (fun hc => ?_) | refine cnd_split (fun hc => ?_) (fun hc => ?_)) <;> ((try (simp (disch := first | omega | (simp <;> omega) | fail) only [push_cast, ↓reduceIte, Nat.reduceEqDiff, Nat.reduceAdd, Nat.reduceMul, Nat.reduceSub, Nat.reduceLT, Int.reduceToNat]))) <;> (try rw [hc])

theorem any_lead {n : Nat} {L : List Nat} {c : Nat} : (!(L.all fun X => !decide ((lead n X : Int) = (c : Int)))) = decide (c ∈ L.map (lead n)) := by
  rw [Bool.eq_iff_iff, decide_eq_true_iff, List.mem_map]
  simp only [Bool.not_eq_true', List.all_eq_false, decide_eq_true_eq, Bool.not_eq_true, Bool.not_eq_false']
  constructor
  · rintro ⟨l, hl, he⟩
    exact ⟨l, hl, by (try simp at he); omega⟩
  · rintro ⟨l, hl, he⟩
    exact ⟨l, hl, by simp [he]⟩
theorem c_impl_free_o (s : Sy) (n m : Nat) (L : List Nat) (hsz : s.size = (n : Int)) (hn1 : n ≤ 1000) (hL : L.length ≤ 1000) (hm : n ≤ 16 * m) (hm2 : m ≤ 1000) : FnO Try.prog 76 [eSy s, eQs n m (optN L)] (· = eI (some (freeTo L n n))) := by
  intro h
  refine enter (by kernel_rfl) e76 (by kernel_rfl) rfl fun hok => ?_
  simp only [r76, initEnv_2]
  (try (simp (disch := first | omega | (simp <;> omega) | fail) only [push_cast, ↓reduceIte, Nat.reduceEqDiff, Nat.reduceAdd, Nat.reduceMul, Nat.reduceSub, Nat.reduceLT, Int.reduceToNat, hsz]))
  refine T_for n (fun i e h' => ∃ v B, Pins e [(1, eQs n m (optN L)), (5, v), (9, .int .i64 n), (10, .int .i64 i)] ∧ h.length ≤ h'.length ∧ S1 h' 1 v (freeTo L n i).length ((freeTo L n i).map (.int .i64)) B ∧ (∀ b ∈ B, h.length ≤ b) ∧ v ≠ .nils) ?_ ?_
  · (try (simp (disch := first | omega | (simp <;> omega) | fail) only [push_cast, ↓reduceIte, Nat.reduceEqDiff, Nat.reduceAdd, Nat.reduceMul, Nat.reduceSub, Nat.reduceLT, Int.reduceToNat, hsz]))
    all_goals (try exact ⟨_, [h.length + 1], rfl, ⟨by simp [freeTo], .inr ⟨h.length + 1, rfl, rfl, by rw [cells_hk]; rfl⟩⟩, by simp, by simp⟩)
  rintro i e h' hi ⟨v, B, hp, hlt, hs, hB, hn⟩
  refine T_pins hp fun e => ?_
  have hsl := freeTo_len (L := L) (n := n) (i := i)
  (try (simp (disch := first | omega | (simp <;> omega) | fail) only [push_cast, ↓reduceIte, Nat.reduceEqDiff, Nat.reduceAdd, Nat.reduceMul, Nat.reduceSub, Nat.reduceLT, Int.reduceToNat]))
  first | refine goC_split (fun hc => ?_) (fun hc => ?_) | refine cnd_split (fun hc => ?_) (fun hc => ?_)
  · (try (simp only [decide_eq_true_eq, decide_eq_false_iff_not, Bool.not_eq_true', Bool.not_eq_false', Bool.and_eq_true, Bool.or_eq_true, Int.not_lt, Int.not_le] at hc)); (try (simp (disch := first | omega | (simp <;> omega) | fail) only [push_cast, ↓reduceIte, Nat.reduceEqDiff, Nat.reduceAdd, Nat.reduceMul, Nat.reduceSub, Nat.reduceLT, Int.reduceToNat]))
    have hi2 : i < n := by omega
    have hsu := freeTo_succ (L := L) (n := n) (i := i)
    have hcf := c_ContainsFunc_Eq n m L 109 h'.length [.int .i64 (i : Int)] (fun X => decide ((lead n X : Int) = (i : Int))) hL (fun X => c_impl_free_1 n m X i hm (by omega)) (free_cons_ free_int free_nil_) (h' ++ [some (.cells [.int .i64 (i : Int)])]) (by rw [cells_h0]; rfl)
    rw [any_lead] at hcf
    (try (simp (disch := first | omega | (simp <;> omega) | fail) only [push_cast, ↓reduceIte, Nat.reduceEqDiff, Nat.reduceAdd, Nat.reduceMul, Nat.reduceSub, Nat.reduceLT, Int.reduceToNat]))
    refine hcf.mono (fun x h2 hx => ?_) (fun _ _ h => h.elim)
    obtain ⟨rfl, rfl⟩ := hx
    by_cases hb : i ∈ L.map (lead n)
    · rw [if_pos hb] at hsu
      rw [decide_eq_true hb]
      have hs2 := hs.frame (h' := h' ++ [some (.cells [.int .i64 (i : Int)])]) fun c hc => List.getElem?_append_left (hs.lt c hc)
      (try (simp (disch := first | omega | (simp <;> omega) | fail) only [push_cast, ↓reduceIte, Nat.reduceEqDiff, Nat.reduceAdd, Nat.reduceMul, Nat.reduceSub, Nat.reduceLT, Int.reduceToNat]))
      all_goals (try exact ⟨_, B, rfl, by simp; omega, by rw [hsu]; exact hs2, hB, hn⟩)
      all_goals (try exact ⟨_, B, rfl, by rw [hsu]; exact hs2, hB, hn⟩)
    · rw [if_neg hb] at hsu
      rw [decide_eq_false hb]
      (try (simp (disch := first | omega | (simp <;> omega) | fail) only [push_cast, ↓reduceIte, Nat.reduceEqDiff, Nat.reduceAdd, Nat.reduceMul, Nat.reduceSub, Nat.reduceLT, Int.reduceToNat]))
      refine (hs.frame (h' := h' ++ [_, _]) fun c hc => List.getElem?_append_left (hs.lt c hc)).app0 (new := [.int .i64 (i : Int)]) (k := 1) (by_ := 8) (fun b hb => Or.inr (hB b hb)) rfl (by omega) fun v2 h2 B2 c1 c2 c3 c4 c5 => ?_
      simp only [List.length_append, List.length_cons, List.length_nil] at c2
      have c1' : S1 h2 1 v2 (freeTo L n (i + 1)).length ((freeTo L n (i + 1)).map (.int .i64)) B2 := by
        rw [hsu]
        simpa using c1
      (try (simp (disch := first | omega | (simp <;> omega) | fail) only [push_cast, ↓reduceIte, Nat.reduceEqDiff, Nat.reduceAdd, Nat.reduceMul, Nat.reduceSub, Nat.reduceLT, Int.reduceToNat]))
      all_goals (try exact ⟨_, B2, rfl, c1', fun b hb => by rcases c4 b hb with h5 | h5; exact hB b h5; simp at h5; omega, c5 hn⟩)
      all_goals (try exact ⟨_, B2, rfl, by omega, c1', fun b hb => by rcases c4 b hb with h5 | h5; exact hB b h5; simp at h5; omega, c5 hn⟩)
  · (try (simp only [decide_eq_true_eq, decide_eq_false_iff_not, Bool.not_eq_true', Bool.not_eq_false', Bool.and_eq_true, Bool.or_eq_true, Int.not_lt, Int.not_le] at hc)); (try (simp (disch := first | omega | (simp <;> omega) | fail) only [push_cast, ↓reduceIte, Nat.reduceEqDiff, Nat.reduceAdd, Nat.reduceMul, Nat.reduceSub, Nat.reduceLT, Int.reduceToNat]))
    have hie : i = n := by omega
    subst hie
    (try (simp (disch := first | omega | (simp <;> omega) | fail) only [push_cast, ↓reduceIte, Nat.reduceEqDiff, Nat.reduceAdd, Nat.reduceMul, Nat.reduceSub, Nat.reduceLT, Int.reduceToNat]))
    exact ⟨_, hs.ow (fun _ => rfl) hB hn, rfl⟩

theorem c_impl_blank_own (n m : Nat) (hn : n ≤ 1000000) (hm : (((n : Int) + 15) / 16) = (m : Int)) (h : H) : Call Try.prog 67 [.int .i64 n] h Nowhere (fun x h' => BnI h h' n m x) := by
  refine enter (by kernel_rfl) e67 (by kernel_rfl) rfl fun hok => ?_
  simp only [r67, initEnv_1]
  (try (simp (disch := first | omega | (simp <;> omega) | fail) only [push_cast, ↓reduceIte, Nat.reduceEqDiff, Nat.reduceAdd, Nat.reduceMul, Nat.reduceSub, Nat.reduceLT, Int.reduceToNat]))
  refine (c_impl_words n (by omega) (by omega)).call ?_
  (try (simp (disch := first | omega | (simp <;> omega) | fail) only [push_cast, ↓reduceIte, Nat.reduceEqDiff, Nat.reduceAdd, Nat.reduceMul, Nat.reduceSub, Nat.reduceLT, Int.reduceToNat, hm]))
  all_goals (try exact ⟨h.length + 1, rfl, by omega, ⟨_, rfl⟩, by rw [cells_hk]; simp [cellsO, rep_words]⟩)

theorem c_impl_Bits_set (m B i b5 o bb : Nat) (on : Bool) (cs : List AV) (h : H) (h5 : h.cells b5 = some cs) (h1 : cs[o + 1]? = some (.sl bb 0 1 m m)) (hb : h.cells bb = some ((wordsN B m).map (.int .i64))) (hi : i < 16 * m) (hm : m ≤ 1000) (hne : b5 ≠ bb) :
    Call Try.prog 81 [.adr b5 o, .int .i64 i, .bool on] h (fun b' => b' = bb) (fun _ h' => h'.length = h.length ∧ (∀ c, c ≠ bb → h'[c]? = h[c]?) ∧ h'.cells bb = some ((wordsN (setB B i on) m).map (.int .i64))) := by
  refine enter (by kernel_rfl) e81 (by kernel_rfl) rfl fun hok => ?_
  simp only [r81, initEnv_3]
  have hbl := cells_lt hb
  have e1 : ((i : Int) / 16).toNat = i / 16 := by omega
  have e2 : ((i : Int) % 16).toNat = i % 16 := by omega
  obtain ⟨v, hv⟩ : ∃ v : Nat, v = 2 ^ (i % 16) := ⟨_, rfl⟩
  have hvl : v < 65536 := by
    rw [hv]
    have : 2 ^ (i % 16) < 2 ^ 16 := Nat.pow_lt_pow_right (by decide) (by omega)
    simpa using this
  have hsh := shl16 (j := i % 16) (by omega)
  rw [← hv] at hsh
  have hwl := wordN_lt (B := B) (k := i / 16)
  obtain ⟨r, hr⟩ : ∃ r : Nat, r = wordN B (i / 16) ^^^ (wordN B (i / 16) &&& v) := ⟨_, rfl⟩
  have han := bitsI_andNot (x := wordN B (i / 16)) (y := v) (by omega) (by omega)
  rw [← hr] at han
  have hlen : ((wordsN B m).map (AV.int .i64)).length = m := by simp [wordsN_len]
  have hgi : ((wordsN B m).map (AV.int .i64))[i / 16]? = some (.int .i64 (wordN B (i / 16) : Int)) := by
    rw [get_I (by rw [wordsN_len]; omega), wordsN_get (by omega)]
  obtain ⟨C, hC⟩ : ∃ C, C = B ^^^ (B &&& 2 ^ i) := ⟨_, rfl⟩
  have hos : over ((wordsN B m).map (AV.int .i64)) (i / 16) [.int .i64 (r : Int)] = (wordsN C m).map (.int .i64) := by
    rw [over_set (by rw [hlen]; omega), hC, ← wordsN_clr hi, ← hv, ← hr, List.map_set]
  have hpm : (bb = bb) = True := by simp
  have w5 : H.cells (wr h bb ((wordsN C m).map (.int .i64))) b5 = some cs := by
    rw [cells_eq]
    unfold wr
    rw [List.getElem?_set_ne (Ne.symm hne), ← cells_eq]
    exact h5
  have wb : H.cells (wr h bb ((wordsN C m).map (.int .i64))) bb = some ((wordsN C m).map (.int .i64)) := cells_wr2 hbl
  have hlen2 : ((wordsN C m).map (AV.int .i64)).length = m := by simp [wordsN_len]
  have hgi2 : ((wordsN C m).map (AV.int .i64))[i / 16]? = some (.int .i64 (wordN C (i / 16) : Int)) := by
    rw [get_I (by rw [wordsN_len]; omega), wordsN_get (by omega)]
  have hwl2 := wordN_lt (B := C) (k := i / 16)
  obtain ⟨r2, hr2⟩ : ∃ r : Nat, r = wordN C (i / 16) ||| v := ⟨_, rfl⟩
  have hor := bitsI_or (x := wordN C (i / 16)) (y := v) (by omega) (by omega)
  rw [← hr2] at hor
  have hos2 : over ((wordsN C m).map (AV.int .i64)) (i / 16) [.int .i64 (r2 : Int)] = (wordsN (C ||| 2 ^ i) m).map (.int .i64) := by
    rw [over_set (by rw [hlen2]; omega), ← wordsN_set hi, ← hv, ← hr2, List.map_set]
  have hres : setB B i on = if on then C ||| 2 ^ i else C := by
    unfold setB
    rw [hC]
    cases on <;> simp
  have hfr1 : ∀ c, c ≠ bb → (wr h bb ((wordsN C m).map (.int .i64)))[c]? = h[c]? := fun c hc => by
    unfold wr
    rw [List.getElem?_set_ne (Ne.symm hc)]
  cases on
  · rw [if_neg (by simp)] at hres
    rw [hres]
    (try (simp (disch := first | omega | (simp <;> omega) | fail) only [push_cast, ↓reduceIte, Nat.reduceEqDiff, Nat.reduceAdd, Nat.reduceMul, Nat.reduceSub, Nat.reduceLT, Int.reduceToNat, h5, h1, hb, e1, e2, hsh, hgi, han, hlen, hos, hpm, reads, List.mem_cons, List.mem_append, List.not_mem_nil, nat_ff, or_self, or_false, false_or, not_false_eq_true]))
    all_goals (try exact ⟨by simp [wr], hfr1, wb⟩)
  · rw [if_pos rfl] at hres
    rw [hres]
    (try (simp (disch := first | omega | (simp <;> omega) | fail) only [push_cast, ↓reduceIte, Nat.reduceEqDiff, Nat.reduceAdd, Nat.reduceMul, Nat.reduceSub, Nat.reduceLT, Int.reduceToNat, h5, h1, hb, e1, e2, hsh, hgi, han, hlen, hos, hpm, w5, wb, hgi2, hor, hlen2, hos2, reads, List.mem_cons, List.mem_append, List.not_mem_nil, nat_ff, or_self, or_false, false_or, not_false_eq_true]))
    all_goals (try exact ⟨by simp [wr], fun c hc => by
      unfold wr
      rw [List.getElem?_set_ne (Ne.symm hc)]
      exact hfr1 c hc, cells_wr2 (by simp [wr]; omega)⟩)

def FlI (h h' : H) (n m bb x : Nat) : Prop :=
  h.length + 2 ≤ h'.length ∧ h'.cells h.length = some [.int .i64 n, .sl bb 0 1 m m] ∧ h'.cells (h.length + 1) = some [.int .i64 0, .nils] ∧ h'.cells bb = some ((wordsN x m).map (.int .i64)) ∧ bb < h.length ∧ ∀ c, c < h.length → c ≠ bb → h'[c]? = h[c]?
theorem FlI.app {h h' l : H} {n m bb x : Nat} (hr : FlI h h' n m bb x) : FlI h (h' ++ l) n m bb x := by
  obtain ⟨h1, h2, h3, h4, h5, h6⟩ := hr
  exact ⟨by simp; omega, cells_app h2, cells_app h3, cells_app h4, h5, fun c hc hn => (List.getElem?_append_left (by omega)).trans (h6 c hc hn)⟩
theorem FlI.put {h h' h2 : H} {n m bb x y : Nat} (hr : FlI h h' n m bb x) (hl : h'.length ≤ h2.length) (hf : ∀ b', b' < h'.length → b' ≠ bb → h2[b']? = h'[b']?) (hc : h2.cells bb = some ((wordsN y m).map (.int .i64))) : FlI h h2 n m bb y := by
  obtain ⟨h1, h2, h3, h4, h5, h6⟩ := hr
  exact ⟨by omega, cells_keep (hf _ (by omega) (by omega)) h2, cells_keep (hf _ (by omega) (by omega)) h3, hc, h5, fun c hc hn => (hf c (by omega) hn).trans (h6 c hc hn)⟩
theorem fillCol_take {n i k x : Nat} {q : Bool} {L : List Nat} (hk : k < L.length) : fillColS n q (L.take (k + 1)) i x = fillStep n q i (fillColS n q (L.take k) i x) (L.getD k 0) := by
  unfold fillColS
  rw [List.take_add_one, List.foldl_append]
  simp [hk]
theorem oddN_mod {n A B : Nat} : oddN (A % 2 ^ n) B n = oddN A B n := oddN_congr fun j hj => by
  rw [Nat.testBit_mod_two_pow]
  simp [hj]
def solN (s : Sy) : Nat := fillS (nSy s) true (linS s) 0 (nSy s)
theorem fillS_lt {n : Nat} {q : Bool} {L : List Nat} {x j : Nat} (hj : j ≤ n) (hx : ∀ c, n ≤ c → x.testBit c = false) : ∀ c, n ≤ c → (fillS n q L x j).testBit c = false := fun c hc => by
  rw [fillS_keep hj (.inr hc)]
  exact hx c hc
theorem setP_hi {n : Nat} {g : Nat → Bool} {M : List Nat} {y c : Nat} (hM : ∀ e ∈ M, lead n e < n) (hc : n ≤ c) : (setP n g M y).testBit c = y.testBit c := setP_free fun hh => by
  obtain ⟨e, he, hec⟩ := List.mem_map.1 hh
  have := hM e he
  omega
theorem sol_eq {s : Sy} {M : List Nat} (hp : M.Perm (linI s)) : setP (nSy s) (fun e => e.testBit (nSy s)) M 0 = solN s := by
  have hs := lin_sim s
  have h1 := piv_eq hs (x := 0) (fun l _ => by simp) (pivV_solve hs.ei hs.rr hp)
  refine Nat.eq_of_testBit_eq fun c => ?_
  by_cases hc : c < nSy s
  · exact h1 c hc
  · rw [setP_hi (fun e he => hs.ei.lt e (hp.mem_iff.1 he)) (by omega)]
    unfold solN
    rw [fillS_lt (Nat.le_refl _) (fun c _ => by simp) c (by omega)]
    simp
def mSy (s : Sy) : Nat := (nSy s + 15) / 16
theorem OkE.mm {s : Sy} {m : Nat} (ho : OkE s (nSy s) m) : m = mSy s := by
  have := ho.hm
  unfold mSy
  omega
def solB (s : Sy) : Bt := if okSy s ∧ refN s = 0 then ⟨nSy s, some (wordsN (solN s) (mSy s))⟩ else ⟨0, none⟩
def solq (s : Sy) : Bool := okSy s && decide (refN s = 0)
def solV (s : Sy) : AV := .tup [eB (solB s), .bool (solq s)]
theorem free_solV {s : Sy} : Free (solV s) := free_tup (free_cons_ free_eB (free_cons_ free_bool free_nil_))
theorem solB_len {s : Sy} : (lI (solB s).words).length ≤ 5 := by
  unfold solB
  split
  · rename_i h
    obtain ⟨m, ho⟩ := okE_n h.1
    have h2 := ho.n2
    have h3 : (lI (some (wordsN (solN s) (mSy s)))).length = mSy s := wordsN_len
    show (lI (some (wordsN (solN s) (mSy s)))).length ≤ 5
    rw [h3]
    unfold mSy
    omega
  · simp [lI]

theorem setP_take {n k y : Nat} {g : Nat → Bool} {L : List Nat} (hk : k < L.length) : setP n g (L.take (k + 1)) y = setB (setP n g (L.take k) y) (lead n (L.getD k 0)) (g (L.getD k 0)) := by
  unfold setP
  rw [List.take_add_one, List.foldl_append]
  simp [hk]
def SvI (h h' : H) (n m b6 bb x : Nat) : Prop :=
  h'.cells (h.length + 1) = some [.int .i64 0, .nils] ∧ h'.cells b6 = some [.int .i64 n, .sl bb 0 1 m m] ∧ h'.cells bb = some ((wordsN x m).map (.int .i64)) ∧ h.length + 2 ≤ bb ∧ h.length + 2 ≤ b6 ∧ b6 ≠ bb
theorem SvI.app {h h' l : H} {n m b6 bb x : Nat} (hr : SvI h h' n m b6 bb x) : SvI h (h' ++ l) n m b6 bb x := by
  obtain ⟨h1, h2, h3, h4, h5, h6⟩ := hr
  exact ⟨cells_app h1, cells_app h2, cells_app h3, h4, h5, h6⟩
theorem SvI.put {h h' h2 : H} {n m b6 bb x y : Nat} (hr : SvI h h' n m b6 bb x) (hf : ∀ c, c ≠ bb → h2[c]? = h'[c]?) (hc : h2.cells bb = some ((wordsN y m).map (.int .i64))) : SvI h h2 n m b6 bb y := by
  obtain ⟨h1, h2, h3, h4, h5, h6⟩ := hr
  exact ⟨cells_keep (hf _ (by omega)) h1, cells_keep (hf _ h6) h2, hc, h4, h5, h6⟩
theorem c_impl_solve_o (s : Sy) (m : Nat) (ho : OkE s (nSy s) m) : FnO Try.prog 78 [eSy s] (· = .tup [eB ⟨nSy s, some (wordsN (solN s) m)⟩, .bool (decide (refN s = 0))]) := by
  intro h
  refine enter (by kernel_rfl) e78 (by kernel_rfl) rfl fun hok => ?_
  simp only [r78, initEnv_1]
  have hsz := ho.sz
  have hn1 := ho.n1
  have hn2 := ho.n2
  have hm := ho.hm
  have hnr := ho.nr
  have hll := stI_len (s := s) (n := nSy s) (i := (lB s.rows).length)
  have hmsk := (ho.msk (i := (lB s.rows).length) (Nat.le_refl _)).shr
  have hr : (stI s (nSy s) (lB s.rows).length).2 = refN s := (lin_sim s).ref.symm
  have hmsk2 : ofN (nSy s) (refN s) = 0 ↔ refN s = 0 := hmsk
  (try (simp (disch := first | omega | (simp <;> omega) | fail) only [push_cast, ↓reduceIte, Nat.reduceEqDiff, Nat.reduceAdd, Nat.reduceMul, Nat.reduceSub, Nat.reduceLT, Int.reduceToNat]))
  refine (c_impl_reduced s _ m ho).use ?_
  rintro x ⟨L, hp, rfl⟩
  have hL : L.length ≤ 40 := by
    have := hp.length_eq
    omega
  have hse := sol_eq hp
  have hlead : ∀ l ∈ L, lead (nSy s) l < nSy s := fun l hl => (lin_sim s).ei.lt l (hp.mem_iff.1 hl)
  have hdec : decide (((ofN (nSy s) (refN s) : Nat) : Int) = 0) = decide (refN s = 0) := by
    rw [decide_eq_decide, ← hmsk2]
    omega
  rw [hr]
  clear hp hr hmsk hmsk2 hll
  generalize nSy s = n at *
  generalize ofN n (refN s) = R at *
  (try (simp (disch := first | omega | (simp <;> omega) | fail) only [push_cast, ↓reduceIte, Nat.reduceEqDiff, Nat.reduceAdd, Nat.reduceMul, Nat.reduceSub, Nat.reduceLT, Int.reduceToNat, hsz]))
  refine (c_impl_blank_own n m (by omega) hm _).mono (fun x h1 hx => ?_) (fun _ _ h => h.elim)
  obtain ⟨bb, rfl, hbb, ⟨p, hp⟩, hcb⟩ := hx
  have hbb2 : h.length + 2 ≤ bb := by simp at hbb; omega
  have f2 : h1.cells (h.length + 1) = some [.int .i64 0, .nils] := by
    rw [hp]
    refine cells_app ?_
    rw [cells_hk]
    rfl
  have hl1 : h.length + 2 ≤ h1.length := by rw [hp]; simp
  have hbl := cells_lt hcb
  clear hp
  (try (simp (disch := first | omega | (simp <;> omega) | fail) only [push_cast, ↓reduceIte, Nat.reduceEqDiff, Nat.reduceAdd, Nat.reduceMul, Nat.reduceSub, Nat.reduceLT, Int.reduceToNat, lenA_eQs, lL_optN]))
  refine T_for L.length (fun k e h' => Pins e [(2, .adr (h.length + 1) 0), (5, .int .u64 R), (6, .adr h1.length 0), (17, eQs n m (optN L)), (18, .int .i64 L.length), (19, .int .i64 k)] ∧ SvI h h' n m h1.length bb (setP n (fun e => e.testBit n) (L.take k) 0)) ?_ ?_
  · (try (simp (disch := first | omega | (simp <;> omega) | fail) only [push_cast, ↓reduceIte, Nat.reduceEqDiff, Nat.reduceAdd, Nat.reduceMul, Nat.reduceSub, Nat.reduceLT, Int.reduceToNat]))
    all_goals (try exact ⟨cells_app f2, by rw [cells_h0]; rfl, cells_app hcb, hbb2, hl1, by omega⟩)
  rintro k e h' hk ⟨hp, hr⟩
  refine T_pins hp fun e => ?_
  (try (simp (disch := first | omega | (simp <;> omega) | fail) only [push_cast, ↓reduceIte, Nat.reduceEqDiff, Nat.reduceAdd, Nat.reduceMul, Nat.reduceSub, Nat.reduceLT, Int.reduceToNat]))
  first | refine goC_split (fun hc => ?_) (fun hc => ?_) | refine cnd_split (fun hc => ?_) (fun hc => ?_)
  · (try (simp only [decide_eq_true_eq, decide_eq_false_iff_not, Bool.not_eq_true', Bool.not_eq_false', Bool.and_eq_true, Bool.or_eq_true, Int.not_lt, Int.not_le] at hc)); (try (simp (disch := first | omega | (simp <;> omega) | fail) only [push_cast, ↓reduceIte, Nat.reduceEqDiff, Nat.reduceAdd, Nat.reduceMul, Nat.reduceSub, Nat.reduceLT, Int.reduceToNat]))
    have hk2 : k < L.length := by omega
    have hia : iaddrA 4 (eQs n m (optN L)) (.int .i64 (k : Int)) = some (.rad (L.flatMap (cQ n m)) (k * 4)) := by
      rw [iaddr_eQs (by omega) (by rw [lL_optN]; omega), lL_optN]
      rfl
    have hld := ld_Q (n := n) (m := m) hk2
    have hst := setP_take (n := n) (g := fun e => e.testBit n) (y := 0) hk2
    have hlt := hlead _ (getD_mem (d := 0) hk2)
    generalize L.getD k 0 = l at hst hld hlt
    have hcx : cQ n m l = [.int .i64 n, eI (some (wordsN (l % 2 ^ n) m)), .bool (l.testBit n), .int .u64 (ofN n l : Int)] := rfl
    rw [hcx] at hld
    have hr0 := hr.app (l := [some (.cells (cQ n m l))])
    obtain ⟨r1, r2, r3, r4, r5, r6⟩ := hr0
    have hlh : h.length ≤ h'.length := by
      have := cells_lt hr.1
      omega
    have hnx := c_impl_Bits_next2 (some (wordsN (l % 2 ^ n) m)) n (l % 2 ^ n) m (cQ n m l) 0 rfl rfl rfl (by omega) (by omega)
    rw [lead_mod] at hnx
    (try (simp (disch := first | omega | (simp <;> omega) | fail) only [push_cast, ↓reduceIte, Nat.reduceEqDiff, Nat.reduceAdd, Nat.reduceMul, Nat.reduceSub, Nat.reduceLT, Int.reduceToNat, hia, hld, reads, List.mem_cons, List.mem_append, List.not_mem_nil, nat_ff, or_self, or_false, false_or, not_false_eq_true]))
    refine hnx.lendL ?_ own_int ?_
    · exact .adr (cs := cQ n m l) (by rw [cells_h0]; rfl) free_cQ (.free free_int (.free free_bool .nil))
    (try (simp (disch := first | omega | (simp <;> omega) | fail) only [push_cast, ↓reduceIte, Nat.reduceEqDiff, Nat.reduceAdd, Nat.reduceMul, Nat.reduceSub, Nat.reduceLT, Int.reduceToNat, reads, List.mem_cons, List.mem_append, List.not_mem_nil, nat_ff, or_self, or_false, false_or, not_false_eq_true]))
    refine (c_impl_Bits_set m _ (lead n l) h1.length 0 bb (l.testBit n) _ _ r2 rfl r3 (by omega) (by omega) r6).mono (fun y h2 hy => ?_) (fun b' _ hb' => ⟨Or.inr (by omega), ?_⟩)
    · obtain ⟨y1, y2, y3⟩ := hy
      have hfin := (hr.app (l := [some (.cells (cQ n m l))])).put y2 y3
      rw [← hst] at hfin
      (try (simp (disch := first | omega | (simp <;> omega) | fail) only [push_cast, ↓reduceIte, Nat.reduceEqDiff, Nat.reduceAdd, Nat.reduceMul, Nat.reduceSub, Nat.reduceLT, Int.reduceToNat]))
      all_goals (try exact hfin)
    · subst hb'
      have := cells_lt hr.2.2.1
      (try (simp (disch := first | omega | (simp <;> omega) | fail) only [push_cast, ↓reduceIte, Nat.reduceEqDiff, Nat.reduceAdd, Nat.reduceMul, Nat.reduceSub, Nat.reduceLT, Int.reduceToNat, reads, List.mem_cons, List.mem_append, List.not_mem_nil, nat_ff, or_self, or_false, false_or, not_false_eq_true]))
      all_goals (try omega)
  · (try (simp only [decide_eq_true_eq, decide_eq_false_iff_not, Bool.not_eq_true', Bool.not_eq_false', Bool.and_eq_true, Bool.or_eq_true, Int.not_lt, Int.not_le] at hc)); (try (simp (disch := first | omega | (simp <;> omega) | fail) only [push_cast, ↓reduceIte, Nat.reduceEqDiff, Nat.reduceAdd, Nat.reduceMul, Nat.reduceSub, Nat.reduceLT, Int.reduceToNat]))
    have hke : k = L.length := by omega
    subst hke
    rw [List.take_length, hse] at hr
    obtain ⟨r1, r2, r3, r4, r5, r6⟩ := hr
    have hlt := cells_lt r1
    have hw := cells_wr2 hlt (cs := [AV.int .i64 (n : Int), .sl bb 0 1 m m])
    have hpm : (h.length ≤ h.length + 1) = True := by simp
    have hfin : ∀ q : Bool, ∃ t, Ow (wr h' (h.length + 1) [.int .i64 (n : Int), .sl bb 0 1 m m]) [.tup [.agg [.int .i64 (n : Int), .sl bb 0 1 m m], .bool q]] [t] (fun c => h.length ≤ c) ∧ t = .tup [.agg [.int .i64 (n : Int), eI (some (wordsN (solN s) m))], .bool q] := fun q => by
      refine ⟨_, (Ow.two (F := fun c => h.length ≤ c) (F' := fun _ => False) (Ow.aggOf (.atom rfl (ow_map (f := AV.int .i64) (l := wordsN (solN s) m) (fun _ => rfl) ?_ wordsN_len ?_))) (.atom rfl .nil) (fun c hc => hc) (fun _ h => h.elim)).tupOf, ?_⟩
      · rw [cells_eq]
        unfold wr
        rw [List.getElem?_set_ne (by omega), ← cells_eq]
        exact r3
      · omega
      · simp [eI, wordsN_len]
    cases hq : decide (refN s = 0)
    · rw [hq] at hdec
      (try (simp (disch := first | omega | (simp <;> omega) | fail) only [push_cast, ↓reduceIte, Nat.reduceEqDiff, Nat.reduceAdd, Nat.reduceMul, Nat.reduceSub, Nat.reduceLT, Int.reduceToNat, r2, r1, hpm, hw, hdec]))
      exact hfin _
    · rw [hq] at hdec
      (try (simp (disch := first | omega | (simp <;> omega) | fail) only [push_cast, ↓reduceIte, Nat.reduceEqDiff, Nat.reduceAdd, Nat.reduceMul, Nat.reduceSub, Nat.reduceLT, Int.reduceToNat, r2, r1, hpm, hw, hdec]))
      exact hfin _

theorem c_spec_reOdd (wa wb : Option (List Int)) (nb : Int) (n m A B : Nat) (hwa : lI wa = wordsN A m) (hwb : lI wb = wordsN B m) (hm : n ≤ 16 * m) (hm2 : m ≤ 1000) : Fn Try.prog 85 [eB ⟨n, wa⟩, eB ⟨nb, wb⟩] (· = .bool (oddN A B n)) := by
  refine Fn.of free_bool fun h => ?_
  refine enter (by kernel_rfl) e85 (by kernel_rfl) rfl fun hok => ?_
  simp only [r85, initEnv_2]
  (try (simp (disch := first | omega | (simp <;> omega) | fail) only [push_cast, ↓reduceIte, Nat.reduceEqDiff, Nat.reduceAdd, Nat.reduceMul, Nat.reduceSub, Nat.reduceLT, Int.reduceToNat]))
  refine T_for n (fun i e h' => Pins e [(2, .adr h.length 0), (3, .adr (h.length + 1) 0), (5, .bool (oddN A B i)), (6, .int .i64 i)] ∧ h' = h ++ [some (.cells [.int .i64 n, eI wa]), some (.cells [.int .i64 nb, eI wb])]) ?_ ?_
  · (try (simp (disch := first | omega | (simp <;> omega) | fail) only [push_cast, ↓reduceIte, Nat.reduceEqDiff, Nat.reduceAdd, Nat.reduceMul, Nat.reduceSub, Nat.reduceLT, Int.reduceToNat]))
    all_goals (try rfl)
  rintro i e h' hi ⟨hp, rfl⟩
  refine T_pins hp fun e => ?_
  (try (simp (disch := first | omega | (simp <;> omega) | fail) only [push_cast, ↓reduceIte, Nat.reduceEqDiff, Nat.reduceAdd, Nat.reduceMul, Nat.reduceSub, Nat.reduceLT, Int.reduceToNat]))
  first | refine goC_split (fun hc => ?_) (fun hc => ?_) | refine cnd_split (fun hc => ?_) (fun hc => ?_)
  · (try (simp only [decide_eq_true_eq, decide_eq_false_iff_not, Bool.not_eq_true', Bool.not_eq_false', Bool.and_eq_true, Bool.or_eq_true, Int.not_lt, Int.not_le] at hc)); (try (simp (disch := first | omega | (simp <;> omega) | fail) only [push_cast, ↓reduceIte, Nat.reduceEqDiff, Nat.reduceAdd, Nat.reduceMul, Nat.reduceSub, Nat.reduceLT, Int.reduceToNat]))
    have hin : i < n := by omega
    have hst : oddN A B (i + 1) = (oddN A B i != (A.testBit i && B.testBit i)) := rfl
    (try (simp (disch := first | omega | (simp <;> omega) | fail) only [push_cast, ↓reduceIte, Nat.reduceEqDiff, Nat.reduceAdd, Nat.reduceMul, Nat.reduceSub, Nat.reduceLT, Int.reduceToNat]))
    refine (c_spec_biAt ⟨n, wa⟩ A m i hwa (by omega) (by omega)).call ?_
    cases ha : A.testBit i
    · rw [ha] at hst
      have h2 : (oddN A B i == false) = !oddN A B i := by cases oddN A B i <;> rfl
      have h3 : oddN A B (i + 1) = oddN A B i := by rw [hst]; cases oddN A B i <;> rfl
      (try (simp (disch := first | omega | (simp <;> omega) | fail) only [push_cast, ↓reduceIte, Nat.reduceEqDiff, Nat.reduceAdd, Nat.reduceMul, Nat.reduceSub, Nat.reduceLT, Int.reduceToNat, h2]))
      all_goals (try rw [h3])
      cases hq : oddN A B i
      · (try (simp (disch := first | omega | (simp <;> omega) | fail) only [push_cast, ↓reduceIte, Nat.reduceEqDiff, Nat.reduceAdd, Nat.reduceMul, Nat.reduceSub, Nat.reduceLT, Int.reduceToNat, hq]))
        all_goals (try rw [h3, hq])
      · (try (simp (disch := first | omega | (simp <;> omega) | fail) only [push_cast, ↓reduceIte, Nat.reduceEqDiff, Nat.reduceAdd, Nat.reduceMul, Nat.reduceSub, Nat.reduceLT, Int.reduceToNat, hq]))
        all_goals (try rw [h3, hq])
    · rw [ha] at hst
      (try (simp (disch := first | omega | (simp <;> omega) | fail) only [push_cast, ↓reduceIte, Nat.reduceEqDiff, Nat.reduceAdd, Nat.reduceMul, Nat.reduceSub, Nat.reduceLT, Int.reduceToNat]))
      refine (c_spec_biAt ⟨nb, wb⟩ B m i hwb (by omega) (by omega)).call ?_
      cases hq : oddN A B i
      · rw [hq] at hst
        cases hb : B.testBit i
        · rw [hb] at hst
          (try (simp (disch := first | omega | (simp <;> omega) | fail) only [push_cast, ↓reduceIte, Nat.reduceEqDiff, Nat.reduceAdd, Nat.reduceMul, Nat.reduceSub, Nat.reduceLT, Int.reduceToNat, hq]))
          all_goals (try (rw [hst]; rfl))
        · rw [hb] at hst
          (try (simp (disch := first | omega | (simp <;> omega) | fail) only [push_cast, ↓reduceIte, Nat.reduceEqDiff, Nat.reduceAdd, Nat.reduceMul, Nat.reduceSub, Nat.reduceLT, Int.reduceToNat, hq]))
          all_goals (try (rw [hst]; rfl))
      · rw [hq] at hst
        cases hb : B.testBit i
        · rw [hb] at hst
          (try (simp (disch := first | omega | (simp <;> omega) | fail) only [push_cast, ↓reduceIte, Nat.reduceEqDiff, Nat.reduceAdd, Nat.reduceMul, Nat.reduceSub, Nat.reduceLT, Int.reduceToNat, hq]))
          all_goals (try (rw [hst]; rfl))
        · rw [hb] at hst
          (try (simp (disch := first | omega | (simp <;> omega) | fail) only [push_cast, ↓reduceIte, Nat.reduceEqDiff, Nat.reduceAdd, Nat.reduceMul, Nat.reduceSub, Nat.reduceLT, Int.reduceToNat, hq]))
          all_goals (try (rw [hst]; rfl))
  · (try (simp only [decide_eq_true_eq, decide_eq_false_iff_not, Bool.not_eq_true', Bool.not_eq_false', Bool.and_eq_true, Bool.or_eq_true, Int.not_lt, Int.not_le] at hc)); (try (simp (disch := first | omega | (simp <;> omega) | fail) only [push_cast, ↓reduceIte, Nat.reduceEqDiff, Nat.reduceAdd, Nat.reduceMul, Nat.reduceSub, Nat.reduceLT, Int.reduceToNat]))
    have hin : i = n := by omega
    subst hin
    (try (simp (disch := first | omega | (simp <;> omega) | fail) only [push_cast, ↓reduceIte, Nat.reduceEqDiff, Nat.reduceAdd, Nat.reduceMul, Nat.reduceSub, Nat.reduceLT, Int.reduceToNat]))

set_option maxHeartbeats 2000000 in
theorem c_spec_reFill (n m bb x : Nat) (L : List Nat) (q : Bool) (h : H) (hb : h.cells bb = some ((wordsN x m).map (.int .i64))) (hL : L.length ≤ 1000) (hm : n ≤ 16 * m) (hm2 : m ≤ 1000) (hn1 : 1 ≤ n) :
    Call Try.prog 80 [eLs n m (optN L), .agg [.int .i64 n, .sl bb 0 1 m m], .bool q] h (fun b' => b' = bb) (fun y h' => y = .agg [.int .i64 n, .sl bb 0 1 m m] ∧ h.length ≤ h'.length ∧ h'.cells bb = some ((wordsN (fillS n q L x n) m).map (.int .i64)) ∧ ∀ c, c < h.length → c ≠ bb → h'[c]? = h[c]?) := by
  refine enter (by kernel_rfl) e80 (by kernel_rfl) rfl fun hok => ?_
  simp only [r80, initEnv_3]
  have hbl := cells_lt hb
  (try (simp (disch := first | omega | (simp <;> omega) | fail) only [push_cast, ↓reduceIte, Nat.reduceEqDiff, Nat.reduceAdd, Nat.reduceMul, Nat.reduceSub, Nat.reduceLT, Int.reduceToNat]))
  refine T_for n (fun j e h' => Pins e [(0, eLs n m (optN L)), (2, .bool q), (4, .adr h.length 0), (6, .adr (h.length + 1) 0), (7, .int .i64 ((n : Int) - 1 - j))] ∧ FlI h h' n m bb (fillS n q L x j)) ?_ ?_
  · (try (simp (disch := first | omega | (simp <;> omega) | fail) only [push_cast, ↓reduceIte, Nat.reduceEqDiff, Nat.reduceAdd, Nat.reduceMul, Nat.reduceSub, Nat.reduceLT, Int.reduceToNat]))
    all_goals (try exact ⟨by simp, by rw [cells_h0]; rfl, by rw [cells_hk]; rfl, cells_app hb, hbl, fun c hc _ => List.getElem?_append_left hc⟩)
    all_goals (try exact ⟨by omega, by simp, by rw [cells_h0]; rfl, by rw [cells_hk]; rfl, cells_app hb, hbl, fun c hc _ => List.getElem?_append_left hc⟩)
  rintro j e h' hj ⟨hp, hr⟩
  refine T_pins hp fun e => ?_
  (try (simp (disch := first | omega | (simp <;> omega) | fail) only [push_cast, ↓reduceIte, Nat.reduceEqDiff, Nat.reduceAdd, Nat.reduceMul, Nat.reduceSub, Nat.reduceLT, Int.reduceToNat]))
  first | refine goC_split (fun hc => ?_) (fun hc => ?_) | refine cnd_split (fun hc => ?_) (fun hc => ?_)
  · (try (simp only [decide_eq_true_eq, decide_eq_false_iff_not, Bool.not_eq_true', Bool.not_eq_false', Bool.and_eq_true, Bool.or_eq_true, Int.not_lt, Int.not_le] at hc)); (try (simp (disch := first | omega | (simp <;> omega) | fail) only [push_cast, ↓reduceIte, Nat.reduceEqDiff, Nat.reduceAdd, Nat.reduceMul, Nat.reduceSub, Nat.reduceLT, Int.reduceToNat]))
    have hjn : j < n := by omega
    obtain ⟨i, hi⟩ : ∃ i, i = n - 1 - j := ⟨_, rfl⟩
    have hii : (n : Int) - 1 - (j : Int) = (i : Int) := by omega
    have hin : i < n := by omega
    have hnx : (i : Int) - 1 = (n : Int) - 1 - ((j : Int) + 1) := by omega
    have hfs : fillS n q L x (j + 1) = fillColS n q L i (fillS n q L x j) := by rw [fillS, hi]
    (try (simp (disch := first | omega | (simp <;> omega) | fail) only [push_cast, ↓reduceIte, Nat.reduceEqDiff, Nat.reduceAdd, Nat.reduceMul, Nat.reduceSub, Nat.reduceLT, Int.reduceToNat, hii, lenA_eLs, lL_optN]))
    refine T_for L.length (fun k e h' => Pins e [(0, eLs n m (optN L)), (2, .bool q), (4, .adr h.length 0), (6, .adr (h.length + 1) 0), (7, .int .i64 i), (17, eLs n m (optN L)), (18, .int .i64 L.length), (19, .int .i64 k)] ∧ FlI h h' n m bb (fillColS n q (L.take k) i (fillS n q L x j))) ?_ ?_
    · (try (simp (disch := first | omega | (simp <;> omega) | fail) only [push_cast, ↓reduceIte, Nat.reduceEqDiff, Nat.reduceAdd, Nat.reduceMul, Nat.reduceSub, Nat.reduceLT, Int.reduceToNat]))
      all_goals (try exact hr)
    clear hp hr
    rintro k e h' hk ⟨hp, hr⟩
    refine T_pins hp fun e => ?_
    (try (simp (disch := first | omega | (simp <;> omega) | fail) only [push_cast, ↓reduceIte, Nat.reduceEqDiff, Nat.reduceAdd, Nat.reduceMul, Nat.reduceSub, Nat.reduceLT, Int.reduceToNat]))
    first | refine goC_split (fun hd => ?_) (fun hd => ?_) | refine cnd_split (fun hd => ?_) (fun hd => ?_)
    · (try (simp only [decide_eq_true_eq, decide_eq_false_iff_not, Bool.not_eq_true', Bool.not_eq_false', Bool.and_eq_true, Bool.or_eq_true, Int.not_lt, Int.not_le] at hd)); (try (simp (disch := first | omega | (simp <;> omega) | fail) only [push_cast, ↓reduceIte, Nat.reduceEqDiff, Nat.reduceAdd, Nat.reduceMul, Nat.reduceSub, Nat.reduceLT, Int.reduceToNat]))
      have hk2 : k < L.length := by omega
      have hst := fillCol_take (n := n) (q := q) (i := i) (x := fillS n q L x j) hk2
      generalize fillColS n q (L.take k) i (fillS n q L x j) = X at hr hst
      have hia : iaddrA 4 (eLs n m (optN L)) (.int .i64 (k : Int)) = some (.rad (L.flatMap (cLn n m)) (k * 4)) := by
        rw [iaddr_eLs (by omega) (by rw [lL_optN]; omega), lL_optN]
        rfl
      have hld := ld_Ln (n := n) (m := m) hk2
      generalize L.getD k 0 = l at hst hld
      have hcx : cLn n m l = [.int .i64 n, eI (some (wordsN (l % 2 ^ n) m)), .bool (l.testBit n), eI (optL (setL (l >>> (n + 1))))] := rfl
      rw [hcx] at hld
      have hr0 := hr.app (l := [some (.cells [.int .i64 n, eI (some (wordsN (l % 2 ^ n) m)), .bool (l.testBit n), eI (optL (setL (l >>> (n + 1))))])])
      obtain ⟨r1, r2, r3, r4, r5, r6⟩ := hr
      have r2' := cells_app (l := [some (.cells [.int .i64 n, eI (some (wordsN (l % 2 ^ n) m)), .bool (l.testBit n), eI (optL (setL (l >>> (n + 1))))])]) r2
      have r4' := cells_app (l := [some (.cells [.int .i64 n, eI (some (wordsN (l % 2 ^ n) m)), .bool (l.testBit n), eI (optL (setL (l >>> (n + 1))))])]) r4
      (try (simp (disch := first | omega | (simp <;> omega) | fail) only [push_cast, ↓reduceIte, Nat.reduceEqDiff, Nat.reduceAdd, Nat.reduceMul, Nat.reduceSub, Nat.reduceLT, Int.reduceToNat, hia, hld]))
      refine (c_spec_reFirst2 (some (wordsN (l % 2 ^ n) m)) n m (l % 2 ^ n) rfl hm (by omega)).call ?_
      rw [leadI_mod]
      have hLi : (leadI n l = (i : Int)) ↔ lead n l = i := by
        unfold leadI
        split <;> omega
      unfold fillStep at hst
      by_cases hli : lead n l = i
      · have hli2 : leadI n l = (i : Int) := hLi.2 hli
        (try (simp (disch := first | omega | (simp <;> omega) | fail) only [push_cast, ↓reduceIte, Nat.reduceEqDiff, Nat.reduceAdd, Nat.reduceMul, Nat.reduceSub, Nat.reduceLT, Int.reduceToNat, hli2, r2']))
        have hodd := c_spec_reOdd (some (wordsN (l % 2 ^ n) m)) (some (wordsN X m)) n n m (l % 2 ^ n) X rfl rfl hm hm2
        rw [oddN_mod] at hodd
        refine hodd.lendL (.free (free_eB (b := ⟨n, some (wordsN (l % 2 ^ n) m)⟩)) (.cons (vw_B (Nat.zero_le _) r4' wordsN_len) .nil)) own_bool ?_
        by_cases hne : oddN l X n = rgt q n l
        · rw [if_neg (fun h5 => h5.2 hne)] at hst
          have hX : fillColS n q (L.take (k + 1)) i (fillS n q L x j) = X := hst
          unfold rgt at hne
          cases q
          · rw [Bool.false_and] at hne
            (try (simp (disch := first | omega | (simp <;> omega) | fail) only [push_cast, ↓reduceIte, Nat.reduceEqDiff, Nat.reduceAdd, Nat.reduceMul, Nat.reduceSub, Nat.reduceLT, Int.reduceToNat, hne, r2']))
            all_goals (try (rw [hX]; exact hr0))
          · rw [Bool.true_and] at hne
            cases hln : l.testBit n
            · rw [hln] at hne hr0 r2' r4'
              (try (simp (disch := first | omega | (simp <;> omega) | fail) only [push_cast, ↓reduceIte, Nat.reduceEqDiff, Nat.reduceAdd, Nat.reduceMul, Nat.reduceSub, Nat.reduceLT, Int.reduceToNat, hne, hln, r2']))
              all_goals (try (rw [hX]; exact hr0))
            · rw [hln] at hne hr0 r2' r4'
              (try (simp (disch := first | omega | (simp <;> omega) | fail) only [push_cast, ↓reduceIte, Nat.reduceEqDiff, Nat.reduceAdd, Nat.reduceMul, Nat.reduceSub, Nat.reduceLT, Int.reduceToNat, hne, hln, r2']))
              all_goals (try (rw [hX]; exact hr0))
        · rw [if_pos ⟨hli, hne⟩] at hst
          have hset := c_spec_biSet n bb m X i _ r4' (by omega) (by omega)
          have hfin : ∀ (y : AV) (h2 : H), ((h' ++ [some (AObj.cells [AV.int .i64 n, eI (some (wordsN (l % 2 ^ n) m)), .bool (l.testBit n), eI (optL (setL (l >>> (n + 1))))])]).length ≤ h2.length ∧ (∀ b', b' < (h' ++ [some (AObj.cells [AV.int .i64 n, eI (some (wordsN (l % 2 ^ n) m)), .bool (l.testBit n), eI (optL (setL (l >>> (n + 1))))])]).length → b' ≠ bb → h2[b']? = (h' ++ [some (AObj.cells [AV.int .i64 n, eI (some (wordsN (l % 2 ^ n) m)), .bool (l.testBit n), eI (optL (setL (l >>> (n + 1))))])])[b']?) ∧ h2.cells bb = some ((wordsN (X ||| 2 ^ i) m).map (.int .i64))) → FlI h h2 n m bb (fillColS n q (L.take (k + 1)) i (fillS n q L x j)) := fun y h2 hy => by
            rw [hst]
            exact hr0.put hy.1 hy.2.1 hy.2.2
          unfold rgt at hne
          clear hst hr0
          cases q
          · rw [Bool.false_and, Bool.not_eq_false] at hne
            (try (simp (disch := first | omega | (simp <;> omega) | fail) only [push_cast, ↓reduceIte, Nat.reduceEqDiff, Nat.reduceAdd, Nat.reduceMul, Nat.reduceSub, Nat.reduceLT, Int.reduceToNat, hne, r2']))
            refine hset.mono (fun y h2 hy => ?_) (fun b' _ hb' => Or.inl hb')
            have := hfin y h2 hy
            (try (simp (disch := first | omega | (simp <;> omega) | fail) only [push_cast, ↓reduceIte, Nat.reduceEqDiff, Nat.reduceAdd, Nat.reduceMul, Nat.reduceSub, Nat.reduceLT, Int.reduceToNat]))
            all_goals (try exact this)
          · rw [Bool.true_and] at hne
            cases hln : l.testBit n
            · rw [hln, Bool.not_eq_false] at hne
              rw [hln] at hfin hset r2' r4'
              (try (simp (disch := first | omega | (simp <;> omega) | fail) only [push_cast, ↓reduceIte, Nat.reduceEqDiff, Nat.reduceAdd, Nat.reduceMul, Nat.reduceSub, Nat.reduceLT, Int.reduceToNat, hne, hln, r2']))
              refine hset.mono (fun y h2 hy => ?_) (fun b' _ hb' => Or.inl hb')
              have := hfin y h2 hy
              (try (simp (disch := first | omega | (simp <;> omega) | fail) only [push_cast, ↓reduceIte, Nat.reduceEqDiff, Nat.reduceAdd, Nat.reduceMul, Nat.reduceSub, Nat.reduceLT, Int.reduceToNat]))
              all_goals (try exact this)
            · rw [hln, Bool.not_eq_true] at hne
              rw [hln] at hfin hset r2' r4'
              (try (simp (disch := first | omega | (simp <;> omega) | fail) only [push_cast, ↓reduceIte, Nat.reduceEqDiff, Nat.reduceAdd, Nat.reduceMul, Nat.reduceSub, Nat.reduceLT, Int.reduceToNat, hne, hln, r2']))
              refine hset.mono (fun y h2 hy => ?_) (fun b' _ hb' => Or.inl hb')
              have := hfin y h2 hy
              (try (simp (disch := first | omega | (simp <;> omega) | fail) only [push_cast, ↓reduceIte, Nat.reduceEqDiff, Nat.reduceAdd, Nat.reduceMul, Nat.reduceSub, Nat.reduceLT, Int.reduceToNat]))
              all_goals (try exact this)
      · have hli2 : ¬ leadI n l = (i : Int) := fun h => hli (hLi.1 h)
        rw [if_neg (fun h => hli h.1)] at hst
        (try (simp (disch := first | omega | (simp <;> omega) | fail) only [push_cast, ↓reduceIte, Nat.reduceEqDiff, Nat.reduceAdd, Nat.reduceMul, Nat.reduceSub, Nat.reduceLT, Int.reduceToNat, hli2, r2']))
        all_goals (try (rw [hst]; exact hr0))
    · (try (simp only [decide_eq_true_eq, decide_eq_false_iff_not, Bool.not_eq_true', Bool.not_eq_false', Bool.and_eq_true, Bool.or_eq_true, Int.not_lt, Int.not_le] at hd)); (try (simp (disch := first | omega | (simp <;> omega) | fail) only [push_cast, ↓reduceIte, Nat.reduceEqDiff, Nat.reduceAdd, Nat.reduceMul, Nat.reduceSub, Nat.reduceLT, Int.reduceToNat]))
      have hke : k = L.length := by omega
      subst hke
      rw [List.take_length, ← hfs] at hr
      (try (simp (disch := first | omega | (simp <;> omega) | fail) only [push_cast, ↓reduceIte, Nat.reduceEqDiff, Nat.reduceAdd, Nat.reduceMul, Nat.reduceSub, Nat.reduceLT, Int.reduceToNat]))
      all_goals (try exact ⟨by omega, hr⟩)
      all_goals (try exact hr)
  · (try (simp only [decide_eq_true_eq, decide_eq_false_iff_not, Bool.not_eq_true', Bool.not_eq_false', Bool.and_eq_true, Bool.or_eq_true, Int.not_lt, Int.not_le] at hc)); (try (simp (disch := first | omega | (simp <;> omega) | fail) only [push_cast, ↓reduceIte, Nat.reduceEqDiff, Nat.reduceAdd, Nat.reduceMul, Nat.reduceSub, Nat.reduceLT, Int.reduceToNat]))
    have hjn : j = n := by omega
    subst hjn
    obtain ⟨r1, r2, r3, r4, r5, r6⟩ := hr
    have hw := cells_wr2 (h := h') (b := h.length + 1) (by omega) (cs := [AV.int .i64 (j : Int), .sl bb 0 1 m m])
    have hpm : (h.length ≤ h.length + 1) = True := by simp
    (try (simp (disch := first | omega | (simp <;> omega) | fail) only [push_cast, ↓reduceIte, Nat.reduceEqDiff, Nat.reduceAdd, Nat.reduceMul, Nat.reduceSub, Nat.reduceLT, Int.reduceToNat, r2, r3, hpm, hw]))
    all_goals (try exact ⟨by simp [wr]; omega, by rw [cells_eq]; unfold wr; rw [List.getElem?_set_ne (by omega), ← cells_eq]; exact r4, fun c hc hn => by unfold wr; rw [List.getElem?_set_ne (by omega)]; exact r6 c hc hn⟩)

end Go.Proofs.Ytgkdnpigbpkehaa.M
