/-
  What the functions return.
-/
import Derived.Test.YtgkdnpigbpkehaaFj
import Derived.Test.YtgkdnpigbpkehaaCb
namespace Go.Proofs.Ytgkdnpigbpkehaa.M
open Go Go.RowKit
set_option linter.unusedVariables false
set_option linter.unusedSimpArgs false
set_option maxRecDepth 4000

theorem OkE.nn {s : Sy} {n m : Nat} (ho : OkE s n m) : s.size.toNat = n := by
  rw [ho.sz]
  rfl
def nSy (s : Sy) : Nat := s.size.toNat
def linS (s : Sy) : List Nat := (stS s (nSy s) (lB s.rows).length).1
def linI (s : Sy) : List Nat := (stI s (nSy s) (lB s.rows).length).1
def refN (s : Sy) : Nat := (stS s (nSy s) (lB s.rows).length).2
theorem lin_sim (s : Sy) : Sim (nSy s) (stS s (nSy s) (lB s.rows).length) (stI s (nSy s) (lB s.rows).length) := stI_sim
theorem okE_n {s : Sy} (h : okSy s = true) : ∃ m, OkE s (nSy s) m := by
  obtain ⟨n, m, ho⟩ := okE_of h
  have := ho.nn
  unfold nSy
  rw [this]
  exact ⟨m, ho⟩
def rankV (s : Sy) : AV := if okSy s then .tup [.int .i64 (linS s).length, .bool true] else .tup [.int .i64 0, .bool false]
theorem rankV_tup (s : Sy) : ∃ n b, rankV s = .tup [.int .i64 n, .bool b] := by
  unfold rankV
  split <;> exact ⟨_, _, rfl⟩
theorem free_rankV {s : Sy} : Free (rankV s) := by
  obtain ⟨n, b, h⟩ := rankV_tup s
  rw [h]
  exact free_tup (free_cons_ free_int (free_cons_ free_bool free_nil_))

theorem at_bit64 {x j : Nat} (hx : x < 18446744073709551616) (hj : j < 64) : decide (bitsI .and .u64 (Int.fdiv (x : Int) (2 ^ (min j IntKind.u64.bits))) 1 = 1) = x.testBit j := by
  have h1 : min j IntKind.u64.bits = j := by
    simp [IntKind.bits]
    omega
  have h2 : Int.fdiv (x : Int) (2 ^ j) = ((x >>> j : Nat) : Int) := by
    rw [Nat.shiftRight_eq_div_pow]
    have : ((2 : Int) ^ j) = ((2 ^ j : Nat) : Int) := by simp
    rw [this]
    exact (Int.ofNat_fdiv x (2 ^ j)).symm
  have h3 : x >>> j ≤ x := Nat.shiftRight_le x j
  have h4 : bitsI .and .u64 ((x >>> j : Nat) : Int) ((1 : Nat) : Int) = ((x >>> j &&& 1 : Nat) : Int) := by
    have h5 : x >>> j &&& 1 ≤ 1 := Nat.and_le_right
    show IntKind.u64.wrap ((BitVec.ofInt 64 ((x >>> j : Nat) : Int) &&& BitVec.ofInt 64 ((1 : Nat) : Int)).toNat : Int) = _
    rw [ofInt_nat, ofInt_nat, BitVec.toNat_and, BitVec.toNat_ofNat, BitVec.toNat_ofNat, Nat.mod_eq_of_lt (by omega), Nat.mod_eq_of_lt (by omega)]
    exact u64_nat (by omega)
  rw [h1, h2]
  rw [show ((1 : Nat) : Int) = 1 from rfl] at h4
  rw [h4, Nat.and_one_is_mod, Nat.testBit_eq_decide_div_mod_eq, Nat.shiftRight_eq_div_pow, decide_eq_decide]
  omega
def setTo (M i : Nat) : List Int := ((List.range i).filter fun j => M.testBit j).map fun j : Nat => (j : Int)
theorem setTo_all {M : Nat} : setTo M 64 = setL M := rfl
theorem setTo_succ {M i : Nat} : setTo M (i + 1) = if M.testBit i = true then setTo M i ++ [(i : Int)] else setTo M i := by
  unfold setTo
  rw [List.range_succ, List.filter_append, List.map_append]
  cases h : M.testBit i <;> simp [h]
theorem setTo_len {M i : Nat} : (setTo M i).length ≤ i := by
  unfold setTo
  rw [List.length_map]
  exact Nat.le_trans (List.length_filter_le _ _) (by simp)

theorem ow_sys {h : H} {x : AV} {z : Int} {l : List Bt} {q : List Bool} {G : Nat → Prop} (ho : Ow h [x] [eSy ⟨z, some l, some q⟩] G) : ∃ b1 b2, x = .agg [.int .i64 z, .sl b1 0 2 l.length l.length, .sl b2 0 1 q.length q.length] := by
  obtain ⟨cs, rfl, h1⟩ := Ow.openAgg (show Ow h [x] [.agg [.int .i64 z, eBS (some l), eO (some q)]] G from ho)
  have hl : cs.length = 3 := h1.len.symm
  match cs, hl, h1 with
  | [x1, x2, x3], _, h1 =>
    obtain ⟨F, F', f1, f2, f3, f4⟩ := h1.uncons
    obtain ⟨A, B, a1, a2, a3, a4⟩ := f2.uncons
    have e1 : x1 = .int .i64 z := f1.atomOf rfl
    obtain ⟨b1, e2⟩ := Ow.sl1 (show Ow h [x2] [.ro 2 _ _] A from a1)
    obtain ⟨b2, e3⟩ := Ow.sl1 (show Ow h [x3] [.ro 1 _ _] B from a2)
    subst e1 e2 e3
    exact ⟨b1, b2, rfl⟩
theorem ow_ints {h : H} {x : AV} {a : Option (List Int)} {G : Nat → Prop} (ho : Ow h [x] [eI a] G) : one x = true ∧ cellsOf x = [x] := by
  cases a with
  | none => have : x = .nils := ho.atomOf rfl; rw [this]; exact ⟨rfl, rfl⟩
  | some l => obtain ⟨b, e⟩ := Ow.sl1 (show Ow h [x] [.ro 1 _ _] G from ho); rw [e]; exact ⟨rfl, rfl⟩
theorem ow_tup2 {h : H} {x t1 : AV} {q : Bool} {G : Nat → Prop} (ho : Ow h [x] [.tup [t1, .bool q]] G) : ∃ y, x = .tup [y, .bool q] ∧ Ow h [y] [t1] G := by
  obtain ⟨cs, rfl, h1⟩ := ho.openTup
  have hl : cs.length = 2 := h1.len.symm
  match cs, hl, h1 with
  | [x1, x2], _, h1 =>
    obtain ⟨F, F', f1, f2, f3, f4⟩ := h1.uncons
    have e2 : x2 = .bool q := f2.atomOf rfl
    subst e2
    exact ⟨x1, rfl, f1.mono f3⟩
theorem offB_cp {s : Sy} : offB (lB (cpSy s).rows) + (lO (cpSy s).right).length = wSy s := by
  unfold wSy wBS offB cpSy
  simp only [lB, lO, List.map_map]
  have : ∀ l : List Bt, (l.map ((fun b : Bt => 1 + (lI b.words).length) ∘ cpB)).sum = l.length + (l.map fun p => (lI p.words).length).sum := fun l => by
    induction l with
    | nil => rfl
    | cons a l ih =>
      simp only [List.map_cons, List.sum_cons, List.length_cons, ih, Function.comp]
      have : (lI (cpB a).words).length = (lI a.words).length := rfl
      omega
  rw [this]

def freeTo (L : List Nat) (n i : Nat) : List Int := ((List.range i).filter fun c => !(decide (c ∈ L.map (lead n)))).map fun j : Nat => (j : Int)
theorem freeTo_succ {L : List Nat} {n i : Nat} : freeTo L n (i + 1) = if i ∈ L.map (lead n) then freeTo L n i else freeTo L n i ++ [(i : Int)] := by
  unfold freeTo
  rw [List.range_succ, List.filter_append, List.map_append]
  by_cases h : i ∈ L.map (lead n)
  · rw [if_pos h]
    simp only [List.filter_cons, decide_eq_true h, List.filter_nil]
    simp
  · rw [if_neg h]
    simp only [List.filter_cons, decide_eq_false h, List.filter_nil]
    simp
theorem freeTo_len {L : List Nat} {n i : Nat} : (freeTo L n i).length ≤ i := by
  unfold freeTo
  rw [List.length_map]
  exact Nat.le_trans (List.length_filter_le _ _) (by simp)
theorem freeTo_congr {L M : List Nat} {n i : Nat} (h : ∀ c, c ∈ L.map (lead n) ↔ c ∈ M.map (lead n)) : freeTo L n i = freeTo M n i := by
  unfold freeTo
  congr 1
  refine List.filter_congr fun c _ => ?_
  rw [decide_eq_decide.2 (h c)]
def leadsL (n : Nat) (L : List Nat) : List Int := L.map fun l => (lead n l : Int)
theorem leadsL_mem {n : Nat} {L : List Nat} {c : Nat} : (c : Int) ∈ leadsL n L ↔ c ∈ L.map (lead n) := by
  unfold leadsL
  simp only [List.mem_map]
  constructor
  · rintro ⟨l, hl, he⟩
    exact ⟨l, hl, by omega⟩
  · rintro ⟨l, hl, he⟩
    exact ⟨l, hl, by omega⟩
theorem S1.vwI0 {h : H} {n0 n : Nat} {v : AV} {l : List Int} {B : List Nat} (hs : S1 h 1 v n (l.map (.int .i64)) B) (hb : ∀ b ∈ B, n0 ≤ b) : ∃ o, Vw h n0 v (eI o) ∧ lI o = l := by
  by_cases hn : v = .nils
  · subst hn
    rcases hs.2 with ⟨_, h0, _⟩ | ⟨b, hh, _⟩
    · have hl : l = [] := List.eq_nil_of_length_eq_zero (by have := hs.1; simp at this; omega)
      exact ⟨none, .free free_nils, hl.symm⟩
    · cases hh
  · exact ⟨some l, hs.vwI hb hn, rfl⟩
theorem optL_cases {l : List Int} : (l = [] ∧ eI (optL l) = .nils) ∨ (l ≠ [] ∧ optL l = some l) := by
  unfold optL
  by_cases h : l = []
  · exact .inl ⟨h, by rw [if_pos h]; rfl⟩
  · exact .inr ⟨h, if_neg h⟩
theorem S1.vwO {h : H} {n0 n : Nat} {v : AV} {l : List Int} {B : List Nat} (hs : S1 h 1 v n (l.map (.int .i64)) B) (hb : ∀ b ∈ B, n0 ≤ b) (hn : v = .nils ↔ l = []) : Vw h n0 v (eI (optL l)) := by
  rcases optL_cases (l := l) with ⟨h1, h2⟩ | ⟨h1, h2⟩
  · rw [h2, hn.2 h1]
    exact .free free_nils
  · rw [h2]
    exact hs.vwI hb fun h3 => h1 (hn.1 h3)
def freeN (s : Sy) : List Int := freeTo (linS s) (nSy s) (nSy s)
theorem freeN_len {s : Sy} {n m : Nat} (ho : OkE s n m) : (freeN s).length ≤ 72 := by
  have h1 := freeTo_len (L := linS s) (n := nSy s) (i := nSy s)
  have h2 := ho.nn
  have h3 := ho.n2
  unfold freeN
  unfold nSy at *
  omega

set_option maxHeartbeats 1000000 in
theorem c_spec_reFree (s : Sy) (m : Nat) (ho : OkE s (nSy s) m) : Fn Try.prog 75 [eSy s] (· = eI (optL (freeN s))) := by
  refine Fn.froze_ fun h => ?_
  unfold freeN
  refine enter (by kernel_rfl) e75 (by kernel_rfl) rfl fun hok => ?_
  simp only [r75, initEnv_1]
  have hsz := ho.sz
  have hn2 := ho.n2
  have hm := ho.hm
  have hnr := ho.nr
  have hlen := stS_len (s := s) (n := nSy s) (i := (lB s.rows).length)
  have hlt := (lin_sim s).es.lt
  (try (simp (disch := first | omega | (simp <;> omega) | fail) only [push_cast, ↓reduceIte, Nat.reduceEqDiff, Nat.reduceAdd, Nat.reduceMul, Nat.reduceSub, Nat.reduceLT, Int.reduceToNat]))
  refine (c_spec_reLines s _ m ho).call ?_
  unfold linesV
  have hL : (stS s (nSy s) (lB s.rows).length).1 = linS s := rfl
  rw [hL] at hlen hlt
  rw [hL]
  generalize nSy s = n at *
  generalize linS s = L at *
  clear hL
  (try (simp (disch := first | omega | (simp <;> omega) | fail) only [push_cast, ↓reduceIte, Nat.reduceEqDiff, Nat.reduceAdd, Nat.reduceMul, Nat.reduceSub, Nat.reduceLT, Int.reduceToNat, lenA_eLs, lL_optN]))
  refine T_for L.length (fun i e h' => ∃ v B, Pins e [(1, .adr h.length 0), (5, v), (6, .nils), (15, eLs n m (optN L)), (16, .int .i64 L.length), (17, .int .i64 i)] ∧ h'.cells h.length = some [.int .i64 n, eBS s.rows, eO s.right] ∧ S1 h' 1 v i ((leadsL n (L.take i)).map (.int .i64)) B ∧ (∀ b ∈ B, h.length < b)) ?_ ?_
  · (try (simp (disch := first | omega | (simp <;> omega) | fail) only [push_cast, ↓reduceIte, Nat.reduceEqDiff, Nat.reduceAdd, Nat.reduceMul, Nat.reduceSub, Nat.reduceLT, Int.reduceToNat, hsz]))
    exact ⟨_, [], rfl, by simpa [leadsL] using S1.nil, by simp⟩
  rintro i e h' hi ⟨v, B, hp, hb, hs, hB⟩
  refine T_pins hp fun e => ?_
  have hbl := cells_lt hb
  (try (simp (disch := first | omega | (simp <;> omega) | fail) only [push_cast, ↓reduceIte, Nat.reduceEqDiff, Nat.reduceAdd, Nat.reduceMul, Nat.reduceSub, Nat.reduceLT, Int.reduceToNat]))
  first | refine goC_split (fun hc => ?_) (fun hc => ?_) | refine cnd_split (fun hc => ?_) (fun hc => ?_)
  · (try (simp only [decide_eq_true_eq, decide_eq_false_iff_not, Bool.not_eq_true', Bool.not_eq_false', Bool.and_eq_true, Bool.or_eq_true, Int.not_lt, Int.not_le] at hc)); (try (simp (disch := first | omega | (simp <;> omega) | fail) only [push_cast, ↓reduceIte, Nat.reduceEqDiff, Nat.reduceAdd, Nat.reduceMul, Nat.reduceSub, Nat.reduceLT, Int.reduceToNat]))
    have hi2 : i < L.length := by omega
    have hmem := getD_mem (d := 0) hi2
    have hll := hlt _ hmem
    have htk : leadsL n (L.take (i + 1)) = leadsL n (L.take i) ++ [(lead n (L.getD i 0) : Int)] := by
      have h1 : L[i]?.toList = [L.getD i 0] := by simp [hi2]
      unfold leadsL
      rw [List.take_add_one, h1, List.map_append]
      rfl
    have hia : iaddrA 4 (eLs n m (optN L)) (.int .i64 (i : Int)) = some (.rad (L.flatMap (cLn n m)) (i * 4)) := by
      rw [iaddr_eLs (by omega) (by rw [lL_optN]; omega), lL_optN]
      rfl
    have hld := ld_Ln (n := n) (m := m) hi2
    generalize L.getD i 0 = X at *
    have hcx : cLn n m X = [.int .i64 n, eI (some (wordsN (X % 2 ^ n) m)), .bool (X.testBit n), eI (optL (setL (X >>> (n + 1))))] := rfl
    rw [hcx] at hld
    have hli : leadI n X = (lead n X : Int) := if_pos hll
    (try (simp (disch := first | omega | (simp <;> omega) | fail) only [push_cast, ↓reduceIte, Nat.reduceEqDiff, Nat.reduceAdd, Nat.reduceMul, Nat.reduceSub, Nat.reduceLT, Int.reduceToNat, hia, hld]))
    refine (c_spec_reFirst2 (some (wordsN (X % 2 ^ n) m)) n m (X % 2 ^ n) rfl (by omega) (by omega)).call ?_
    rw [leadI_mod, hli]
    (try (simp (disch := first | omega | (simp <;> omega) | fail) only [push_cast, ↓reduceIte, Nat.reduceEqDiff, Nat.reduceAdd, Nat.reduceMul, Nat.reduceSub, Nat.reduceLT, Int.reduceToNat]))
    refine (hs.frame (h' := h' ++ _) fun c hc => List.getElem?_append_left (hs.lt c hc)).app0 (new := [.int .i64 (lead n X : Int)]) (k := 1) (by_ := 8) (fun b hb => Or.inr (by have := hB b hb; omega)) rfl (by omega) fun v2 h2 B2 c1 c2 c3 c4 c5 => ?_
    simp only [List.length_append, List.length_cons, List.length_nil] at c2 c3
    have hb2 : h2.cells h.length = some [.int .i64 n, eBS s.rows, eO s.right] := cells_keep_ ((c3 _ (by omega) fun hh => absurd (hB _ hh) (by omega)).trans (List.getElem?_append_left hbl)) hb
    have c1' : S1 h2 1 v2 (i + 1) ((leadsL n (L.take (i + 1))).map (.int .i64)) B2 := by
      rw [htk]
      simpa using c1
    have hB2 : ∀ b ∈ B2, h.length < b := fun b hb => by
      rcases c4 b hb with h5 | h5
      · exact hB b h5
      · simp at h5
        omega
    (try (simp (disch := first | omega | (simp <;> omega) | fail) only [push_cast, ↓reduceIte, Nat.reduceEqDiff, Nat.reduceAdd, Nat.reduceMul, Nat.reduceSub, Nat.reduceLT, Int.reduceToNat]))
    all_goals (try exact ⟨_, B2, rfl, hb2, c1', hB2⟩)
  · (try (simp only [decide_eq_true_eq, decide_eq_false_iff_not, Bool.not_eq_true', Bool.not_eq_false', Bool.and_eq_true, Bool.or_eq_true, Int.not_lt, Int.not_le] at hc)); (try (simp (disch := first | omega | (simp <;> omega) | fail) only [push_cast, ↓reduceIte, Nat.reduceEqDiff, Nat.reduceAdd, Nat.reduceMul, Nat.reduceSub, Nat.reduceLT, Int.reduceToNat]))
    have hie : i = L.length := by omega
    subst hie
    rw [List.take_length] at hs
    obtain ⟨o, hvo, hlo⟩ := hs.vwI0 (n0 := 0) fun _ _ => Nat.zero_le _
    have hsB := hs.lt
    (try (simp (disch := first | omega | (simp <;> omega) | fail) only [push_cast, ↓reduceIte, Nat.reduceEqDiff, Nat.reduceAdd, Nat.reduceMul, Nat.reduceSub, Nat.reduceLT, Int.reduceToNat]))
    refine T_for n (fun i e h2 => ∃ w C, Pins e [(1, .adr h.length 0), (5, v), (6, w), (9, .int .i64 i)] ∧ h'.length ≤ h2.length ∧ (∀ c, c < h'.length → h2[c]? = h'[c]?) ∧ S1 h2 1 w (freeTo L n i).length ((freeTo L n i).map (.int .i64)) C ∧ (∀ b ∈ C, h'.length ≤ b) ∧ (w = .nils ↔ freeTo L n i = [])) ?_ ?_
    · (try (simp (disch := first | omega | (simp <;> omega) | fail) only [push_cast, ↓reduceIte, Nat.reduceEqDiff, Nat.reduceAdd, Nat.reduceMul, Nat.reduceSub, Nat.reduceLT, Int.reduceToNat]))
      all_goals (try exact ⟨_, [], rfl, fun _ _ => trivial, by simpa [freeTo] using S1.nil, by simp, by simp [freeTo]⟩)
    clear hp
    rintro i e h2 hi ⟨w, C, hp, hl2, hk2, ht, hC, hwn⟩
    refine T_pins hp fun e => ?_
    have hb2 := cells_keep_ (hk2 _ hbl) hb
    (try (simp (disch := first | omega | (simp <;> omega) | fail) only [push_cast, ↓reduceIte, Nat.reduceEqDiff, Nat.reduceAdd, Nat.reduceMul, Nat.reduceSub, Nat.reduceLT, Int.reduceToNat, hb2]))
    first | refine goC_split (fun hd => ?_) (fun hd => ?_) | refine cnd_split (fun hd => ?_) (fun hd => ?_)
    · (try (simp only [decide_eq_true_eq, decide_eq_false_iff_not, Bool.not_eq_true', Bool.not_eq_false', Bool.and_eq_true, Bool.or_eq_true, Int.not_lt, Int.not_le] at hd)); (try (simp (disch := first | omega | (simp <;> omega) | fail) only [push_cast, ↓reduceIte, Nat.reduceEqDiff, Nat.reduceAdd, Nat.reduceMul, Nat.reduceSub, Nat.reduceLT, Int.reduceToNat]))
      have hin : i < n := by omega
      have hfs := freeTo_succ (L := L) (n := n) (i := i)
      have hfl := freeTo_len (L := L) (n := n) (i := i)
      have hs2 := hs.frame (h' := h2) fun c hc => hk2 c (hsB c hc)
      obtain ⟨o2, hvo2, hlo2⟩ := hs2.vwI0 (n0 := 0) fun _ _ => Nat.zero_le _
      (try (simp (disch := first | omega | (simp <;> omega) | fail) only [push_cast, ↓reduceIte, Nat.reduceEqDiff, Nat.reduceAdd, Nat.reduceMul, Nat.reduceSub, Nat.reduceLT, Int.reduceToNat]))
      refine (c_spec_l1Has o2 (i : Int)).lendL (.cons hvo2 (.free free_int .nil)) own_bool ?_
      rw [hlo2, decide_eq_decide.2 (leadsL_mem (n := n) (L := L) (c := i))]
      by_cases hm2 : i ∈ L.map (lead n)
      · rw [if_pos hm2] at hfs
        rw [decide_eq_true hm2]
        (try (simp (disch := first | omega | (simp <;> omega) | fail) only [push_cast, ↓reduceIte, Nat.reduceEqDiff, Nat.reduceAdd, Nat.reduceMul, Nat.reduceSub, Nat.reduceLT, Int.reduceToNat]))
        all_goals (try exact ⟨_, C, rfl, hl2, hk2, by rw [hfs]; exact ht, hC, by rw [hfs]; exact hwn⟩)
        all_goals (try exact ⟨_, C, rfl, hk2, by rw [hfs]; exact ht, hC, by rw [hfs]; exact hwn⟩)
      · rw [if_neg hm2] at hfs
        rw [decide_eq_false hm2]
        (try (simp (disch := first | omega | (simp <;> omega) | fail) only [push_cast, ↓reduceIte, Nat.reduceEqDiff, Nat.reduceAdd, Nat.reduceMul, Nat.reduceSub, Nat.reduceLT, Int.reduceToNat]))
        refine (ht.frame (h' := h2 ++ _) fun c hc => List.getElem?_append_left (ht.lt c hc)).app0 (new := [.int .i64 (i : Int)]) (k := 1) (by_ := 8) (fun b hb => Or.inr (by have := hC b hb; omega)) rfl (by omega) fun v2 h3 B2 c1 c2 c3 c4 c5 => ?_
        simp only [List.length_append, List.length_cons, List.length_nil] at c2 c3
        have c1' : S1 h3 1 v2 (freeTo L n (i + 1)).length ((freeTo L n (i + 1)).map (.int .i64)) B2 := by
          rw [hfs]
          simpa using c1
        have hk3 : ∀ c, c < h'.length → h3[c]? = h'[c]? := fun c hc => (c3 c (by omega) fun hh => absurd (hC _ hh) (by omega)).trans ((List.getElem?_append_left (by omega)).trans (hk2 c hc))
        have hC2 : ∀ b ∈ B2, h'.length ≤ b := fun b hb => by
          rcases c4 b hb with h5 | h5
          · exact hC b h5
          · simp at h5
            omega
        have hnn : v2 = .nils ↔ freeTo L n (i + 1) = [] := by
          rw [hfs]
          constructor
          · intro h5
            subst h5
            rcases c1.2 with ⟨_, h6, _⟩ | ⟨b, h6, _⟩
            · omega
            · cases h6
          · intro h5
            simp at h5
        (try (simp (disch := first | omega | (simp <;> omega) | fail) only [push_cast, ↓reduceIte, Nat.reduceEqDiff, Nat.reduceAdd, Nat.reduceMul, Nat.reduceSub, Nat.reduceLT, Int.reduceToNat]))
        all_goals (try exact ⟨_, B2, rfl, by omega, hk3, c1', hC2, hnn⟩)
        all_goals (try exact ⟨_, B2, rfl, hk3, c1', hC2, hnn⟩)
    · (try (simp only [decide_eq_true_eq, decide_eq_false_iff_not, Bool.not_eq_true', Bool.not_eq_false', Bool.and_eq_true, Bool.or_eq_true, Int.not_lt, Int.not_le] at hd)); (try (simp (disch := first | omega | (simp <;> omega) | fail) only [push_cast, ↓reduceIte, Nat.reduceEqDiff, Nat.reduceAdd, Nat.reduceMul, Nat.reduceSub, Nat.reduceLT, Int.reduceToNat]))
      have hin : i = n := by omega
      subst hin
      (try (simp (disch := first | omega | (simp <;> omega) | fail) only [push_cast, ↓reduceIte, Nat.reduceEqDiff, Nat.reduceAdd, Nat.reduceMul, Nat.reduceSub, Nat.reduceLT, Int.reduceToNat]))
      exact ⟨_, ht.vwO (fun b hb => by have := hC b hb; omega) hwn, rfl⟩

def freeOV (s : Sy) (q : Bool) : AV := if okSy s then .tup [eI (if q then some (freeN s) else optL (freeN s)), .bool true] else .tup [.nils, .bool false]
theorem free_freeOV {s : Sy} {q : Bool} : Free (freeOV s q) := by
  unfold freeOV
  split
  · exact free_tup (free_cons_ free_eI (free_cons_ free_bool free_nil_))
  · exact free_tup (free_cons_ free_nils (free_cons_ free_bool free_nil_))
theorem c_spec_FreeColumns (s : Sy) : Fn Try.prog 31 [eSy s] (· = freeOV s false) := by
  refine Fn.of free_freeOV fun h => ?_
  refine enter (by kernel_rfl) e31 (by kernel_rfl) rfl fun hok => ?_
  simp only [r31, initEnv_1]
  (try (simp (disch := first | omega | (simp <;> omega) | fail) only [push_cast, ↓reduceIte, Nat.reduceEqDiff, Nat.reduceAdd, Nat.reduceMul, Nat.reduceSub, Nat.reduceLT, Int.reduceToNat]))
  refine (c_spec_reGood s).call ?_
  unfold freeOV
  cases hk : okSy s
  · (try (simp (disch := first | omega | (simp <;> omega) | fail) only [push_cast, ↓reduceIte, Nat.reduceEqDiff, Nat.reduceAdd, Nat.reduceMul, Nat.reduceSub, Nat.reduceLT, Int.reduceToNat]))
    all_goals (try rfl)
  obtain ⟨m, ho⟩ := okE_n hk
  (try (simp (disch := first | omega | (simp <;> omega) | fail) only [push_cast, ↓reduceIte, Nat.reduceEqDiff, Nat.reduceAdd, Nat.reduceMul, Nat.reduceSub, Nat.reduceLT, Int.reduceToNat]))
  refine (c_spec_reFree s m ho).call ?_
  (try (simp (disch := first | omega | (simp <;> omega) | fail) only [push_cast, ↓reduceIte, Nat.reduceEqDiff, Nat.reduceAdd, Nat.reduceMul, Nat.reduceSub, Nat.reduceLT, Int.reduceToNat]))

theorem all_take {f : Nat → Bool} {l : List Nat} {i : Nat} (hi : i < l.length) : (l.take (i + 1)).all f = ((l.take i).all f && f (l.getD i 0)) := by
  rw [List.take_add_one, List.all_append]
  simp [hi]
theorem all_no {f : Nat → Bool} {l : List Nat} {i : Nat} (hi : i < l.length) (hf : f (l.getD i 0) = false) : l.all f = false := by
  rw [List.all_eq_false]
  exact ⟨l.getD i 0, by simp [hi], by rw [hf]; simp⟩
theorem c_IndexFunc_Eq (n m : Nat) (L : List Nat) (f b0 : Nat) (cs : List AV) (g : Nat → Bool) (hL : L.length ≤ 1000) (hg : ∀ X, Fn Try.prog f [.agg (cQ n m X), .rad cs 0] (· = .bool (g X))) (hfree : ∀ c ∈ cs, Free c) (h : H) (hb : h.cells b0 = some cs) :
    Call Try.prog 122 [eQs n m (optN L), .fn f [.adr b0 0]] h Nowhere (fun x h' => (∃ k : Int, x = .int .i64 k ∧ decide (0 ≤ k) = !(L.all fun m => !g m)) ∧ h' = h) := by
  refine Call.gc (Call.mono (?_ : Call Try.prog 122 [eQs n m (optN L), .fn f [.adr b0 0]] h Nowhere (fun x _ => ∃ k : Int, x = .int .i64 k ∧ decide (0 ≤ k) = !(L.all fun m => !g m))) (fun x _ ⟨n, hn, hx⟩ => ⟨⟨n, hn, hx⟩, by rw [hn]; exact free_int⟩) (fun _ _ h => h))
  refine enter (by kernel_rfl) e122 (by kernel_rfl) rfl fun hok => ?_
  simp only [r122, initEnv_2]
  (try (simp (disch := first | omega | (simp <;> omega) | fail) only [push_cast, ↓reduceIte, Nat.reduceEqDiff, Nat.reduceAdd, Nat.reduceMul, Nat.reduceSub, Nat.reduceLT, Int.reduceToNat, lenA_eQs, lL_optN]))
  refine T_for L.length (fun i e h' => Pins e [(0, eQs n m (optN L)), (1, .fn f [.adr b0 0]), (7, .int .i64 L.length), (8, .int .i64 i)] ∧ h' = h ∧ (L.take i).all (fun m => !g m) = true) ?_ ?_
  · (try (simp (disch := first | omega | (simp <;> omega) | fail) only [push_cast, ↓reduceIte, Nat.reduceEqDiff, Nat.reduceAdd, Nat.reduceMul, Nat.reduceSub, Nat.reduceLT, Int.reduceToNat]))
    all_goals (try simp)
  rintro i e h' hi ⟨hp, rfl, ha⟩
  refine T_pins hp fun e => ?_
  (try (simp (disch := first | omega | (simp <;> omega) | fail) only [push_cast, ↓reduceIte, Nat.reduceEqDiff, Nat.reduceAdd, Nat.reduceMul, Nat.reduceSub, Nat.reduceLT, Int.reduceToNat]))
  first | refine goC_split (fun hc => ?_) (fun hc => ?_) | refine cnd_split (fun hc => ?_) (fun hc => ?_)
  · (try (simp only [decide_eq_true_eq, decide_eq_false_iff_not, Bool.not_eq_true', Bool.not_eq_false', Bool.and_eq_true, Bool.or_eq_true, Int.not_lt, Int.not_le] at hc)); (try (simp (disch := first | omega | (simp <;> omega) | fail) only [push_cast, ↓reduceIte, Nat.reduceEqDiff, Nat.reduceAdd, Nat.reduceMul, Nat.reduceSub, Nat.reduceLT, Int.reduceToNat]))
    have hi2 : i < L.length := by omega
    have hia : iaddrA 4 (eQs n m (optN L)) (.int .i64 (i : Int)) = some (.rad (L.flatMap (cQ n m)) (i * 4)) := by
      rw [iaddr_eQs (by omega) (by rw [lL_optN]; omega), lL_optN]
      rfl
    have hld := ld_Q (n := n) (m := m) hi2
    (try (simp (disch := first | omega | (simp <;> omega) | fail) only [push_cast, ↓reduceIte, Nat.reduceEqDiff, Nat.reduceAdd, Nat.reduceMul, Nat.reduceSub, Nat.reduceLT, Int.reduceToNat, hia, hld]))
    refine (hg _).lendL (.free (free_agg free_cQ) (.adr hb hfree .nil)) own_bool ?_
    have hn := all_take (f := fun m => !g m) hi2
    cases hk : g (L.getD i 0)
    · (try (simp (disch := first | omega | (simp <;> omega) | fail) only [push_cast, ↓reduceIte, Nat.reduceEqDiff, Nat.reduceAdd, Nat.reduceMul, Nat.reduceSub, Nat.reduceLT, Int.reduceToNat]))
      rw [hn, ha, hk]
      all_goals (try rfl)
    · (try (simp (disch := first | omega | (simp <;> omega) | fail) only [push_cast, ↓reduceIte, Nat.reduceEqDiff, Nat.reduceAdd, Nat.reduceMul, Nat.reduceSub, Nat.reduceLT, Int.reduceToNat]))
      refine ⟨_, rfl, ?_⟩
      rw [all_no (f := fun m => !g m) hi2 (by rw [hk]; rfl)]
      simp
  · (try (simp only [decide_eq_true_eq, decide_eq_false_iff_not, Bool.not_eq_true', Bool.not_eq_false', Bool.and_eq_true, Bool.or_eq_true, Int.not_lt, Int.not_le] at hc)); (try (simp (disch := first | omega | (simp <;> omega) | fail) only [push_cast, ↓reduceIte, Nat.reduceEqDiff, Nat.reduceAdd, Nat.reduceMul, Nat.reduceSub, Nat.reduceLT, Int.reduceToNat]))
    have : L.take i = L := List.take_of_length_le (by omega)
    rw [this] at ha
    refine ⟨_, rfl, ?_⟩
    rw [ha]
    rfl

theorem c_ContainsFunc_Eq (n m : Nat) (L : List Nat) (f b0 : Nat) (cs : List AV) (g : Nat → Bool) (hL : L.length ≤ 1000) (hg : ∀ X, Fn Try.prog f [.agg (cQ n m X), .rad cs 0] (· = .bool (g X))) (hfree : ∀ c ∈ cs, Free c) (h : H) (hb : h.cells b0 = some cs) :
    Call Try.prog 108 [eQs n m (optN L), .fn f [.adr b0 0]] h Nowhere (fun x h' => x = .bool (!(L.all fun m => !g m)) ∧ h' = h) := by
  refine Call.gc (Call.mono (?_ : Call Try.prog 108 [eQs n m (optN L), .fn f [.adr b0 0]] h Nowhere (fun x _ => x = .bool (!(L.all fun m => !g m)))) (fun x _ hx => ⟨hx, by rw [hx]; exact free_bool⟩) (fun _ _ h => h))
  refine enter (by kernel_rfl) e108 (by kernel_rfl) rfl fun hok => ?_
  simp only [r108, initEnv_2]
  (try (simp (disch := first | omega | (simp <;> omega) | fail) only [push_cast, ↓reduceIte, Nat.reduceEqDiff, Nat.reduceAdd, Nat.reduceMul, Nat.reduceSub, Nat.reduceLT, Int.reduceToNat]))
  refine (c_IndexFunc_Eq n m L f b0 cs g hL hg hfree h hb).mono (fun x h' hx => ?_) (fun _ _ h => h.elim)
  obtain ⟨⟨n, rfl, hn⟩, rfl⟩ := hx
  rw [← hn]
  (try (simp (disch := first | omega | (simp <;> omega) | fail) only [push_cast, ↓reduceIte, Nat.reduceEqDiff, Nat.reduceAdd, Nat.reduceMul, Nat.reduceSub, Nat.reduceLT, Int.reduceToNat]))
  (first | refine goC_split (fun hc => ?_) (fun hc => ?_) | refine cnd_split (fun hc => ?_) (fun hc => ?_)) <;> ((try (simp (disch := first | omega | (simp <;> omega) | fail) only [push_cast, ↓reduceIte, Nat.reduceEqDiff, Nat.reduceAdd, Nat.reduceMul, Nat.reduceSub, Nat.reduceLT, Int.reduceToNat]))) <;> (try rw [hc])

theorem c_impl_free_1 (n m X : Nat) (c : Int) (hm : n ≤ 16 * m) (hm2 : m ≤ 100000) : Fn Try.prog 109 [.agg (cQ n m X), .rad [.int .i64 c] 0] (· = .bool (decide ((lead n X : Int) = c))) := by
  refine Fn.of free_bool fun h => ?_
  refine enter (by kernel_rfl) e109 (by kernel_rfl) rfl fun hok => ?_
  simp only [r109, initEnv_2]
  have hX := c_impl_Bits_next2 (some (wordsN (X % 2 ^ n) m)) n (X % 2 ^ n) m (cQ n m X) 0 rfl rfl rfl hm hm2
  rw [lead_mod] at hX
  have oX : (cQ n m X).all one = true := rfl
  (try (simp (disch := first | omega | (simp <;> omega) | fail) only [push_cast, ↓reduceIte, Nat.reduceEqDiff, Nat.reduceAdd, Nat.reduceMul, Nat.reduceSub, Nat.reduceLT, Int.reduceToNat, oX]))
  refine hX.lendL ?_ own_int ?_
  · exact .adr (cs := cQ n m X) (by rw [cells_h0]; rfl) free_cQ (.free free_int (.free free_bool .nil))
  (try (simp (disch := first | omega | (simp <;> omega) | fail) only [push_cast, ↓reduceIte, Nat.reduceEqDiff, Nat.reduceAdd, Nat.reduceMul, Nat.reduceSub, Nat.reduceLT, Int.reduceToNat]))
  (first | refine goC_split (fun hc => ?_) (fun hc => ?_) | refine cnd_split (fun hc => ?_) (fun hc => ?_)) <;> ((try (simp (disch := first | omega | (simp <;> omega) | fail) only [push_cast, ↓reduceIte, Nat.reduceEqDiff, Nat.reduceAdd, Nat.reduceMul, Nat.reduceSub, Nat.reduceLT, Int.reduceToNat]))) <;> (try rw [hc])

theorem any_lead {n : Nat} {L : List Nat} {c : Nat} : (!(L.all fun X => !decide ((lead n X : Int) = (c : Int)))) = decide (c ∈ L.map (lead n)) := by
  rw [Bool.eq_iff_iff, decide_eq_true_iff, List.mem_map]
  simp only [Bool.not_eq_true', List.all_eq_false, decide_eq_true_eq, Bool.not_eq_true, Bool.not_eq_false']
  constructor
  · rintro ⟨l, hl, he⟩
    exact ⟨l, hl, by (try simp at he); omega⟩
  · rintro ⟨l, hl, he⟩
    exact ⟨l, hl, by simp [he]⟩
theorem c_impl_free_o (s : Sy) (n m : Nat) (L : List Nat) (hsz : s.size = (n : Int)) (hn1 : n ≤ 1000) (hL : L.length ≤ 1000) (hm : n ≤ 16 * m) (hm2 : m ≤ 1000) : FnO Try.prog 76 [eSy s, eQs n m (optN L)] (· = eI (some (freeTo L n n))) := by
  intro h
  refine enter (by kernel_rfl) e76 (by kernel_rfl) rfl fun hok => ?_
  simp only [r76, initEnv_2]
  (try (simp (disch := first | omega | (simp <;> omega) | fail) only [push_cast, ↓reduceIte, Nat.reduceEqDiff, Nat.reduceAdd, Nat.reduceMul, Nat.reduceSub, Nat.reduceLT, Int.reduceToNat, hsz]))
  refine T_for n (fun i e h' => ∃ v B, Pins e [(1, eQs n m (optN L)), (5, v), (9, .int .i64 n), (10, .int .i64 i)] ∧ h.length ≤ h'.length ∧ S1 h' 1 v (freeTo L n i).length ((freeTo L n i).map (.int .i64)) B ∧ (∀ b ∈ B, h.length ≤ b) ∧ v ≠ .nils) ?_ ?_
  · (try (simp (disch := first | omega | (simp <;> omega) | fail) only [push_cast, ↓reduceIte, Nat.reduceEqDiff, Nat.reduceAdd, Nat.reduceMul, Nat.reduceSub, Nat.reduceLT, Int.reduceToNat, hsz]))
    all_goals (try exact ⟨_, [h.length + 1], rfl, ⟨by simp [freeTo], .inr ⟨h.length + 1, rfl, rfl, by rw [cells_hk]; rfl⟩⟩, by simp, by simp⟩)
  rintro i e h' hi ⟨v, B, hp, hlt, hs, hB, hn⟩
  refine T_pins hp fun e => ?_
  have hsl := freeTo_len (L := L) (n := n) (i := i)
  (try (simp (disch := first | omega | (simp <;> omega) | fail) only [push_cast, ↓reduceIte, Nat.reduceEqDiff, Nat.reduceAdd, Nat.reduceMul, Nat.reduceSub, Nat.reduceLT, Int.reduceToNat]))
  first | refine goC_split (fun hc => ?_) (fun hc => ?_) | refine cnd_split (fun hc => ?_) (fun hc => ?_)
  · (try (simp only [decide_eq_true_eq, decide_eq_false_iff_not, Bool.not_eq_true', Bool.not_eq_false', Bool.and_eq_true, Bool.or_eq_true, Int.not_lt, Int.not_le] at hc)); (try (simp (disch := first | omega | (simp <;> omega) | fail) only [push_cast, ↓reduceIte, Nat.reduceEqDiff, Nat.reduceAdd, Nat.reduceMul, Nat.reduceSub, Nat.reduceLT, Int.reduceToNat]))
    have hi2 : i < n := by omega
    have hsu := freeTo_succ (L := L) (n := n) (i := i)
    have hcf := c_ContainsFunc_Eq n m L 109 h'.length [.int .i64 (i : Int)] (fun X => decide ((lead n X : Int) = (i : Int))) hL (fun X => c_impl_free_1 n m X i hm (by omega)) (free_cons_ free_int free_nil_) (h' ++ [some (.cells [.int .i64 (i : Int)])]) (by rw [cells_h0]; rfl)
    rw [any_lead] at hcf
    (try (simp (disch := first | omega | (simp <;> omega) | fail) only [push_cast, ↓reduceIte, Nat.reduceEqDiff, Nat.reduceAdd, Nat.reduceMul, Nat.reduceSub, Nat.reduceLT, Int.reduceToNat]))
    refine hcf.mono (fun x h2 hx => ?_) (fun _ _ h => h.elim)
    obtain ⟨rfl, rfl⟩ := hx
    by_cases hb : i ∈ L.map (lead n)
    · rw [if_pos hb] at hsu
      rw [decide_eq_true hb]
      have hs2 := hs.frame (h' := h' ++ [some (.cells [.int .i64 (i : Int)])]) fun c hc => List.getElem?_append_left (hs.lt c hc)
      (try (simp (disch := first | omega | (simp <;> omega) | fail) only [push_cast, ↓reduceIte, Nat.reduceEqDiff, Nat.reduceAdd, Nat.reduceMul, Nat.reduceSub, Nat.reduceLT, Int.reduceToNat]))
      all_goals (try exact ⟨_, B, rfl, by simp; omega, by rw [hsu]; exact hs2, hB, hn⟩)
      all_goals (try exact ⟨_, B, rfl, by rw [hsu]; exact hs2, hB, hn⟩)
    · rw [if_neg hb] at hsu
      rw [decide_eq_false hb]
      (try (simp (disch := first | omega | (simp <;> omega) | fail) only [push_cast, ↓reduceIte, Nat.reduceEqDiff, Nat.reduceAdd, Nat.reduceMul, Nat.reduceSub, Nat.reduceLT, Int.reduceToNat]))
      refine (hs.frame (h' := h' ++ [_, _]) fun c hc => List.getElem?_append_left (hs.lt c hc)).app0 (new := [.int .i64 (i : Int)]) (k := 1) (by_ := 8) (fun b hb => Or.inr (hB b hb)) rfl (by omega) fun v2 h2 B2 c1 c2 c3 c4 c5 => ?_
      simp only [List.length_append, List.length_cons, List.length_nil] at c2
      have c1' : S1 h2 1 v2 (freeTo L n (i + 1)).length ((freeTo L n (i + 1)).map (.int .i64)) B2 := by
        rw [hsu]
        simpa using c1
      (try (simp (disch := first | omega | (simp <;> omega) | fail) only [push_cast, ↓reduceIte, Nat.reduceEqDiff, Nat.reduceAdd, Nat.reduceMul, Nat.reduceSub, Nat.reduceLT, Int.reduceToNat]))
      all_goals (try exact ⟨_, B2, rfl, c1', fun b hb => by rcases c4 b hb with h5 | h5; exact hB b h5; simp at h5; omega, c5 hn⟩)
      all_goals (try exact ⟨_, B2, rfl, by omega, c1', fun b hb => by rcases c4 b hb with h5 | h5; exact hB b h5; simp at h5; omega, c5 hn⟩)
  · (try (simp only [decide_eq_true_eq, decide_eq_false_iff_not, Bool.not_eq_true', Bool.not_eq_false', Bool.and_eq_true, Bool.or_eq_true, Int.not_lt, Int.not_le] at hc)); (try (simp (disch := first | omega | (simp <;> omega) | fail) only [push_cast, ↓reduceIte, Nat.reduceEqDiff, Nat.reduceAdd, Nat.reduceMul, Nat.reduceSub, Nat.reduceLT, Int.reduceToNat]))
    have hie : i = n := by omega
    subst hie
    (try (simp (disch := first | omega | (simp <;> omega) | fail) only [push_cast, ↓reduceIte, Nat.reduceEqDiff, Nat.reduceAdd, Nat.reduceMul, Nat.reduceSub, Nat.reduceLT, Int.reduceToNat]))
    exact ⟨_, hs.ow (fun _ => rfl) hB hn, rfl⟩

theorem c_impl_FreeColumns_o (s : Sy) : FnO Try.prog 32 [eSy s] (· = freeOV s true) := by
  intro h
  refine enter (by kernel_rfl) e32 (by kernel_rfl) rfl fun hok => ?_
  simp only [r32, initEnv_1]
  (try (simp (disch := first | omega | (simp <;> omega) | fail) only [push_cast, ↓reduceIte, Nat.reduceEqDiff, Nat.reduceAdd, Nat.reduceMul, Nat.reduceSub, Nat.reduceLT, Int.reduceToNat]))
  refine (c_impl_IsSystem s).call ?_
  unfold freeOV
  cases hk : okSy s
  · (try (simp (disch := first | omega | (simp <;> omega) | fail) only [push_cast, ↓reduceIte, Nat.reduceEqDiff, Nat.reduceAdd, Nat.reduceMul, Nat.reduceSub, Nat.reduceLT, Int.reduceToNat]))
    exact ⟨_, (Ow.atom rfl (.atom rfl .nil)).tupOf, rfl⟩
  obtain ⟨m, ho⟩ := okE_n hk
  have hn2 := ho.n2
  have hm := ho.hm
  (try (simp (disch := first | omega | (simp <;> omega) | fail) only [push_cast, ↓reduceIte, Nat.reduceEqDiff, Nat.reduceAdd, Nat.reduceMul, Nat.reduceSub, Nat.reduceLT, Int.reduceToNat]))
  refine (c_impl_reduced s _ m ho).use ?_
  rintro x ⟨L, hp, rfl⟩
  have hl : L.length = (linI s).length := hp.length_eq
  have hll := stI_len (s := s) (n := nSy s) (i := (lB s.rows).length)
  have hlL : L.length ≤ 40 := by
    have := ho.nr
    unfold linI at hl
    omega
  have hfr : freeTo L (nSy s) (nSy s) = freeN s := by
    unfold freeN
    refine freeTo_congr fun c => ?_
    exact (hp.map (lead (nSy s))).mem_iff.trans ((lin_sim s).leads c).symm
  (try (simp (disch := first | omega | (simp <;> omega) | fail) only [push_cast, ↓reduceIte, Nat.reduceEqDiff, Nat.reduceAdd, Nat.reduceMul, Nat.reduceSub, Nat.reduceLT, Int.reduceToNat]))
  refine (c_impl_free_o s _ m L ho.sz (by omega) (by omega) (by omega) (by omega)).go fun x t h2 hR hx how => ?_
  subst hR
  rw [hfr] at how
  have hl2 := hx.len
  simp only [List.length_append, List.length_cons, List.length_nil] at hl2 how
  (try (simp (disch := first | omega | (simp <;> omega) | fail) only [push_cast, ↓reduceIte, Nat.reduceEqDiff, Nat.reduceAdd, Nat.reduceMul, Nat.reduceSub, Nat.reduceLT, Int.reduceToNat]))
  refine ⟨_, (Ow.two (F' := fun _ => False) how (.atom rfl .nil) (fun c hc => ?_) (fun _ h => h.elim)).tupOf, rfl⟩
  have := hc.1
  omega

theorem fits_cons {s : Sh} {ss : List Sh} {zs : List AV} (h : Fits (s :: ss) zs) : ∃ xs ys, zs = xs ++ ys ∧ Fit s xs ∧ Fits ss ys := by
  cases h with
  | cons h hr => exact ⟨_, _, rfl, h, hr⟩
theorem fits_nil {zs : List AV} (h : Fits [] zs) : zs = [] := by cases h; rfl
theorem fit_int {zs : List AV} (h : Fit (.int .i64) zs) : ∃ n : Int, zs = [.int .i64 n] ∧ -9223372036854775808 ≤ n ∧ n ≤ 9223372036854775807 := by
  cases h with
  | int h1 h2 => exact ⟨_, rfl, by simpa [IntKind.min, IntKind.signed, IntKind.bits] using h1, by simpa [IntKind.max, IntKind.signed, IntKind.bits] using h2⟩
theorem fit_str {zs : List AV} (h : Fit .str zs) : ∃ s : Str, zs = [.str s] ∧ s.length ≤ 9223372036854775807 := by
  cases h with
  | str h => exact ⟨_, rfl, h⟩
theorem fit_st {fs : List Sh} {zs : List AV} (h : Fit (.st fs) zs) : Fits fs zs := by
  cases h with
  | st h => exact h
theorem flatMap_eq {α β : Type} {f g : α → List β} : ∀ {l : List α}, (∀ a ∈ l, f a = g a) → l.flatMap f = l.flatMap g
  | [], _ => rfl
  | a :: l, h => by
    rw [List.flatMap_cons, List.flatMap_cons, h a (by simp), flatMap_eq fun b hb => h b (by simp [hb])]
theorem fit_strs {zs : List AV} (h : Fit (.sl .str 1) zs) : ∃ a : Option (List Str), zs = [eS a] := by
  cases h with
  | nil => exact ⟨none, rfl⟩
  | @sl _ _ n g hm hl h =>
    have hg : ∀ i, ∃ s : Str, i < n → g i = [.str s] := fun i => by
      by_cases hi : i < n
      · obtain ⟨s, hs, _⟩ := fit_str (h i hi)
        exact ⟨s, fun _ => hs⟩
      · exact ⟨[], fun h => absurd h hi⟩
    refine ⟨some ((List.range n).map fun i => Classical.choose (hg i)), ?_⟩
    simp only [eS, List.length_map, List.length_range, List.map_map]
    congr 2
    rw [← List.flatMap_singleton' ((List.range n).map _), List.flatMap_map]
    refine flatMap_eq fun i hi => ?_
    rw [Classical.choose_spec (hg i) (List.mem_range.1 hi)]
    rfl
theorem argsFit_cons {s : Sh} {ss : List Sh} {zs : List AV} (h : ArgsFit (s :: ss) zs) : ∃ xs ys, zs = argOf s xs :: ys ∧ Fit s xs ∧ ArgsFit ss ys := by
  cases h with
  | cons h hr => exact ⟨_, _, rfl, h, hr⟩
theorem argsFit_nil {zs : List AV} (h : ArgsFit [] zs) : zs = [] := by cases h; rfl

theorem fit_rows {α : Type} [Inhabited α] {s : Sh} {w : Nat} {f : α → List AV} (hf : ∀ xs, Fit s xs → ∃ a, xs = f a) {zs : List AV} (h : Fit (.sl s w) zs) : zs = [.nils] ∨ ∃ l : List α, zs = [.ro w (l.flatMap f) l.length] := by
  cases h with
  | nil => exact .inl rfl
  | @sl _ _ n g hm hl h =>
    have hg : ∀ i, ∃ a : α, i < n → g i = f a := fun i => by
      by_cases hi : i < n
      · obtain ⟨a, ha⟩ := hf _ (h i hi)
        exact ⟨a, fun _ => ha⟩
      · exact ⟨default, fun h => absurd h hi⟩
    refine .inr ⟨(List.range n).map fun i => Classical.choose (hg i), ?_⟩
    rw [List.length_map, List.length_range, List.flatMap_map]
    congr 2
    exact flatMap_eq fun i hi => Classical.choose_spec (hg i) (List.mem_range.1 hi)
theorem flatMap_one {α : Type} {f : α → AV} : ∀ {l : List α}, l.flatMap (fun a => [f a]) = l.map f
  | [] => rfl
  | a :: l => by rw [List.flatMap_cons, flatMap_one]; rfl
theorem fit_ints {zs : List AV} (h : Fit (.sl (.int .i64) 1) zs) : ∃ a : Option (List Int), zs = [eI a] := by
  rcases fit_rows (f := fun n : Int => [AV.int .i64 n]) (fun xs hx => by obtain ⟨n, hn, _⟩ := fit_int hx; exact ⟨n, hn⟩) h with rfl | ⟨l, rfl⟩
  · exact ⟨none, rfl⟩
  · exact ⟨some l, by rw [flatMap_one]; rfl⟩

def shBits2 : Sh := .st [.int .i64, .sl (.int .i64) 1]
theorem fit_cB {zs : List AV} (h : Fit shBits2 zs) : ∃ b, zs = cB b := by
  obtain ⟨x1, y1, rfl, h1, h⟩ := fits_cons (fit_st h)
  obtain ⟨x2, y2, rfl, h2, h⟩ := fits_cons h
  obtain rfl := fits_nil h
  obtain ⟨n, rfl, _⟩ := fit_int h1
  obtain ⟨a, rfl⟩ := fit_ints h2
  exact ⟨⟨n, a⟩, rfl⟩
theorem fit_bool {zs : List AV} (h : Fit .bool zs) : ∃ b : Bool, zs = [.bool b] := by
  cases h with
  | bool b => exact ⟨b, rfl⟩
theorem fit_bools {zs : List AV} (h : Fit (.sl .bool 1) zs) : ∃ a : Option (List Bool), zs = [eO a] := by
  rcases fit_rows (f := fun n : Bool => [AV.bool n]) (fun xs hx => by obtain ⟨n, hn⟩ := fit_bool hx; exact ⟨n, hn⟩) h with rfl | ⟨l, rfl⟩
  · exact ⟨none, rfl⟩
  · exact ⟨some l, by rw [flatMap_one]; rfl⟩
theorem fit_bitss {zs : List AV} (h : Fit (.sl shBits2 2) zs) : ∃ a : Option (List Bt), zs = [eBS a] := by
  rcases fit_rows (f := cB) (fun xs hx => fit_cB hx) h with rfl | ⟨l, rfl⟩
  · exact ⟨none, rfl⟩
  · exact ⟨some l, rfl⟩
def shSys : Sh := .st [.int .i64, .sl shBits2 2, .sl .bool 1]
theorem fit_sys {zs : List AV} (h : Fit shSys zs) : ∃ s, argOf shSys zs = eSy s := by
  obtain ⟨x1, y1, rfl, h1, h⟩ := fits_cons (fit_st h)
  obtain ⟨x2, y2, rfl, h2, h⟩ := fits_cons h
  obtain ⟨x3, y3, rfl, h3, h⟩ := fits_cons h
  obtain rfl := fits_nil h
  obtain ⟨n, rfl, _⟩ := fit_int h1
  obtain ⟨a, rfl⟩ := fit_bitss h2
  obtain ⟨b, rfl⟩ := fit_bools h3
  exact ⟨⟨n, a, b⟩, rfl⟩
theorem sameSy_cp {s : Sy} : (decide ((cpSy s).size = (cpSy s).size) && (sameBS (lB (cpSy s).rows) (lB (cpSy s).rows) && decide (lO (cpSy s).right = lO (cpSy s).right))) = true := by
  have h1 : sameBS (lB (cpSy s).rows) (lB (cpSy s).rows) = true := sameBS_cp _
  rw [h1]
  simp

def sh_FnExactFreeColumns : List Sh := [shSys]
theorem law_FnExactFreeColumns (ys : List AV) (hy : ArgsFit sh_FnExactFreeColumns ys) : Call Try.prog 7 ys [] Nowhere (fun x _ => x = .bool true) := by
  obtain ⟨x1, y1, rfl, h1, hy⟩ := argsFit_cons hy
  obtain rfl := argsFit_nil hy
  obtain ⟨s, he⟩ := fit_sys h1
  rw [he]
  refine (?_ : ∀ h, Call Try.prog 7 [eSy s] h Nowhere (fun x _ => x = .bool true)) []
  intro h
  refine enter (by kernel_rfl) e7 (by kernel_rfl) rfl fun hok => ?_
  simp only [r7, initEnv_1]
  (try (simp (disch := first | omega | (simp <;> omega) | fail) only [push_cast, ↓reduceIte, Nat.reduceEqDiff, Nat.reduceAdd, Nat.reduceMul, Nat.reduceSub, Nat.reduceLT, Int.reduceToNat]))
  refine (c_laws_szSystem s 1048576 (by omega) (by omega)).call ?_
  (try (simp (disch := first | omega | (simp <;> omega) | fail) only [push_cast, ↓reduceIte, Nat.reduceEqDiff, Nat.reduceAdd, Nat.reduceMul, Nat.reduceSub, Nat.reduceLT, Int.reduceToNat]))
  first | refine goC_split (fun hd => ?_) (fun hd => ?_) | refine cnd_split (fun hd => ?_) (fun hd => ?_)
  · (try (simp only [decide_eq_true_eq, decide_eq_false_iff_not, Bool.not_eq_true', Bool.not_eq_false', Bool.and_eq_true, Bool.or_eq_true, Int.not_lt, Int.not_le] at hd)); (try (simp (disch := first | omega | (simp <;> omega) | fail) only [push_cast, ↓reduceIte, Nat.reduceEqDiff, Nat.reduceAdd, Nat.reduceMul, Nat.reduceSub, Nat.reduceLT, Int.reduceToNat]))
  (try (simp only [decide_eq_true_eq, decide_eq_false_iff_not, Bool.not_eq_true', Bool.not_eq_false', Bool.and_eq_true, Bool.or_eq_true, Int.not_lt, Int.not_le] at hd)); (try (simp (disch := first | omega | (simp <;> omega) | fail) only [push_cast, ↓reduceIte, Nat.reduceEqDiff, Nat.reduceAdd, Nat.reduceMul, Nat.reduceSub, Nat.reduceLT, Int.reduceToNat]))
  have hw := szv_ok hd
  have hw2 : wSy s ≤ 1048576 := by omega
  have hoff := offB_cp (s := s)
  refine (c_laws_toSystem s hw2).call ?_
  (try (simp (disch := first | omega | (simp <;> omega) | fail) only [push_cast, ↓reduceIte, Nat.reduceEqDiff, Nat.reduceAdd, Nat.reduceMul, Nat.reduceSub, Nat.reduceLT, Int.reduceToNat]))
  refine (c_spec_FreeColumns (cpSy s)).call ?_
  obtain ⟨a, b, q, hspec, himpl, hab, hrl⟩ : ∃ a b q, freeOV (cpSy s) false = .tup [eI a, .bool q] ∧ FnO Try.prog 32 [eSy (cpSy s)] (· = .tup [eI b, .bool q]) ∧ lI a = lI b ∧ (lI b).length ≤ 72 := by
    have himpl := c_impl_FreeColumns_o (cpSy s)
    unfold freeOV at himpl ⊢
    cases hk : okSy (cpSy s)
    · rw [hk] at himpl
      exact ⟨none, none, false, rfl, himpl, rfl, by simp [lI]⟩
    · rw [hk] at himpl
      obtain ⟨m, ho⟩ := okE_n hk
      exact ⟨optL (freeN (cpSy s)), some (freeN (cpSy s)), true, rfl, himpl, lI_optL, freeN_len ho⟩
  rw [hspec]
  (try (simp (disch := first | omega | (simp <;> omega) | fail) only [push_cast, ↓reduceIte, Nat.reduceEqDiff, Nat.reduceAdd, Nat.reduceMul, Nat.reduceSub, Nat.reduceLT, Int.reduceToNat]))
  refine (c_laws_toSystem_o s hw2).go fun x t h1 hR hx1 how => ?_
  subst hR
  have hb1 : H.cells h1 h.length = some [.int .i64 s.size, eBS s.rows, eO s.right] := hx1.cells (by rw [cells_h0]; rfl)
  obtain ⟨b1, b2, rfl⟩ := ow_sys how
  have hl1 := hx1.len
  simp only [List.length_append, List.length_cons, List.length_nil] at hl1 how
  (try (simp (disch := first | omega | (simp <;> omega) | fail) only [push_cast, ↓reduceIte, Nat.reduceEqDiff, Nat.reduceAdd, Nat.reduceMul, Nat.reduceSub, Nat.reduceLT, Int.reduceToNat, hb1]))
  refine himpl.goL (.cons (Ext.refl.app.ow how).vw0 .nil) fun y t h2 hR hx2 how2 => ?_
  subst hR
  obtain ⟨g0, rfl, how3⟩ := ow_tup2 how2
  clear how2
  have og := ow_ints how3
  have hl2 := hx2.len
  simp only [List.length_append, List.length_cons, List.length_nil] at hl2 how3
  have hb2 : H.cells h2 h.length = some [.int .i64 s.size, eBS s.rows, eO s.right] := hx2.cells (cells_app hb1)
  have hx0 : H.cells h2 h1.length = some [.int .i64 s.size, .sl b1 0 2 ((lB s.rows).map cpB).length ((lB s.rows).map cpB).length, .sl b2 0 1 (lO s.right).length (lO s.right).length] := hx2.cells (by rw [cells_h0]; rfl)
  have how1 : Ow h2 [.agg [.int .i64 s.size, .sl b1 0 2 ((lB s.rows).map cpB).length ((lB s.rows).map cpB).length, .sl b2 0 1 (lO s.right).length (lO s.right).length]] [eSy (cpSy s)] (Seg (h.length + 1) h1) := hx2.ow2 (Ext.refl.app.ow how) (by simp)
  clear how hx1
  have heqI : Fn Try.prog 23 [eI b, eI a] (· = .bool true) := by
    have := c_laws_eqIntS b a
    rw [hab] at this
    simpa using this
  (try (simp (disch := first | omega | (simp <;> omega) | fail) only [push_cast, ↓reduceIte, Nat.reduceEqDiff, Nat.reduceAdd, Nat.reduceMul, Nat.reduceSub, Nat.reduceLT, Int.reduceToNat, hb2]))
  refine heqI.lendL (.cons how3.vw0 (.free free_eI .nil)) own_bool ?_
  (try (simp (disch := first | omega | (simp <;> omega) | fail) only [push_cast, ↓reduceIte, Nat.reduceEqDiff, Nat.reduceAdd, Nat.reduceMul, Nat.reduceSub, Nat.reduceLT, Int.reduceToNat, hb2, hx0]))
  refine (c_laws_toSystem s hw2).call ?_
  (try (simp (disch := first | omega | (simp <;> omega) | fail) only [push_cast, ↓reduceIte, Nat.reduceEqDiff, Nat.reduceAdd, Nat.reduceMul, Nat.reduceSub, Nat.reduceLT, Int.reduceToNat, hb2, hx0]))
  refine (c_laws_eqSystem (cpSy s) (cpSy s)).lendL (.cons how1.vw0 (.free free_eSy .nil)) own_bool ?_
  rw [sameSy_cp]
  (try (simp (disch := first | omega | (simp <;> omega) | fail) only [push_cast, ↓reduceIte, Nat.reduceEqDiff, Nat.reduceAdd, Nat.reduceMul, Nat.reduceSub, Nat.reduceLT, Int.reduceToNat, hb2, hx0]))
  refine (c_laws_markSystem _ (cpSy s) _ 1 _ how1 (fun c hc => by have := hc.2; omega) (by omega) (by omega)).mono (fun x h3 hx => ?_) (fun c _ hc => Or.inr (by have := hc.1; omega))
  obtain ⟨rfl, hk1⟩ := hx
  have hb3 : H.cells h3 h.length = some [.int .i64 s.size, eBS s.rows, eO s.right] := cells_keep_ (hk1.2 _ (by omega) fun hc => by have := hc.1; omega) hb2
  have how4 := hk1.ow how3 fun c hc => ⟨hc.2, fun hd => by have := hc.1; have := hd.2; omega⟩
  have hl3 := hk1.1
  (try (simp (disch := first | omega | (simp <;> omega) | fail) only [push_cast, ↓reduceIte, Nat.reduceEqDiff, Nat.reduceAdd, Nat.reduceMul, Nat.reduceSub, Nat.reduceLT, Int.reduceToNat, hb3]))
  refine heqI.lendL (.cons how4.vw0 (.free free_eI .nil)) own_bool ?_
  (try (simp (disch := first | omega | (simp <;> omega) | fail) only [push_cast, ↓reduceIte, Nat.reduceEqDiff, Nat.reduceAdd, Nat.reduceMul, Nat.reduceSub, Nat.reduceLT, Int.reduceToNat, hb3]))
  refine (c_laws_markIntS g0 b _ 1 _ how4 (by omega) (by omega)).mono (fun x h4 hx => ?_) (fun c _ hc => Or.inr (by have := hc.1; omega))
  obtain ⟨rfl, hk2, how5⟩ := hx
  have hb4 : H.cells h4 h.length = some [.int .i64 s.size, eBS s.rows, eO s.right] := cells_keep_ (hk2.2 _ fun hc => by have := hc.1; omega) hb3
  (try (simp (disch := first | omega | (simp <;> omega) | fail) only [push_cast, ↓reduceIte, Nat.reduceEqDiff, Nat.reduceAdd, Nat.reduceMul, Nat.reduceSub, Nat.reduceLT, Int.reduceToNat, hb4]))
  refine (c_laws_heldIntS (mkI 1 b) 1 (lI b).length lI_mkI (by omega) (by omega)).lendL (.cons how5.vw0 (.free free_int .nil)) own_int ?_
  (try (simp (disch := first | omega | (simp <;> omega) | fail) only [push_cast, ↓reduceIte, Nat.reduceEqDiff, Nat.reduceAdd, Nat.reduceMul, Nat.reduceSub, Nat.reduceLT, Int.reduceToNat, hb4]))
  refine (c_laws_toSystem s hw2).call ?_
  (try (simp (disch := first | omega | (simp <;> omega) | fail) only [push_cast, ↓reduceIte, Nat.reduceEqDiff, Nat.reduceAdd, Nat.reduceMul, Nat.reduceSub, Nat.reduceLT, Int.reduceToNat, hb4]))
  refine himpl.fn.call ?_
  (try (simp (disch := first | omega | (simp <;> omega) | fail) only [push_cast, ↓reduceIte, Nat.reduceEqDiff, Nat.reduceAdd, Nat.reduceMul, Nat.reduceSub, Nat.reduceLT, Int.reduceToNat, hb4]))
  refine heqI.call ?_
  (try (simp (disch := first | omega | (simp <;> omega) | fail) only [push_cast, ↓reduceIte, Nat.reduceEqDiff, Nat.reduceAdd, Nat.reduceMul, Nat.reduceSub, Nat.reduceLT, Int.reduceToNat, hb4]))
  refine (c_laws_heldIntS (mkI 1 b) 1 (lI b).length lI_mkI (by omega) (by omega)).lendL (.cons how5.vw0 (.free free_int .nil)) own_int ?_
  (try (simp (disch := first | omega | (simp <;> omega) | fail) only [push_cast, ↓reduceIte, Nat.reduceEqDiff, Nat.reduceAdd, Nat.reduceMul, Nat.reduceSub, Nat.reduceLT, Int.reduceToNat, hb4]))

end Go.Proofs.Ytgkdnpigbpkehaa.M
