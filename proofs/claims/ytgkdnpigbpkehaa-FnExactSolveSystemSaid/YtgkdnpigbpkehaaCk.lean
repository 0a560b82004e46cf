/-
  What the functions return.
-/
import Derived.Test.YtgkdnpigbpkehaaFk
import Derived.Test.YtgkdnpigbpkehaaCb
namespace Go.Proofs.Ytgkdnpigbpkehaa.M
open Go Go.RowKit
set_option linter.unusedVariables false
set_option linter.unusedSimpArgs false
set_option maxRecDepth 4000

theorem c_spec_reOdd (wa wb : Option (List Int)) (nb : Int) (n m A B : Nat) (hwa : lI wa = wordsN A m) (hwb : lI wb = wordsN B m) (hm : n ≤ 16 * m) (hm2 : m ≤ 1000) : Fn Try.prog 85 [eB ⟨n, wa⟩, eB ⟨nb, wb⟩] (· = .bool (oddN A B n)) := by
  refine Fn.of free_bool fun h => ?_
  refine enter (by kernel_rfl) e85 (by kernel_rfl) rfl fun hok => ?_
  simp only [r85, initEnv_2]
  (try (simp (disch := first | omega | (simp <;> omega) | fail) only [push_cast, ↓reduceIte, Nat.reduceEqDiff, Nat.reduceAdd, Nat.reduceMul, Nat.reduceSub, Nat.reduceLT, Int.reduceToNat]))
  refine T_for n (fun i e h' => Pins e [(2, .adr h.length 0), (3, .adr (h.length + 1) 0), (5, .bool (oddN A B i)), (6, .int .i64 i)] ∧ h' = h ++ [some (.cells [.int .i64 n, eI wa]), some (.cells [.int .i64 nb, eI wb])]) ?_ ?_
  · (try (simp (disch := first | omega | (simp <;> omega) | fail) only [push_cast, ↓reduceIte, Nat.reduceEqDiff, Nat.reduceAdd, Nat.reduceMul, Nat.reduceSub, Nat.reduceLT, Int.reduceToNat]))
    all_goals (try rfl)
  rintro i e h' hi ⟨hp, rfl⟩
  refine T_pins hp fun e => ?_
  (try (simp (disch := first | omega | (simp <;> omega) | fail) only [push_cast, ↓reduceIte, Nat.reduceEqDiff, Nat.reduceAdd, Nat.reduceMul, Nat.reduceSub, Nat.reduceLT, Int.reduceToNat]))
  first | refine goC_split (fun hc => ?_) (fun hc => ?_) | refine cnd_split (fun hc => ?_) (fun hc => ?_)
  · (try (simp only [decide_eq_true_eq, decide_eq_false_iff_not, Bool.not_eq_true', Bool.not_eq_false', Bool.and_eq_true, Bool.or_eq_true, Int.not_lt, Int.not_le] at hc)); (try (simp (disch := first | omega | (simp <;> omega) | fail) only [push_cast, ↓reduceIte, Nat.reduceEqDiff, Nat.reduceAdd, Nat.reduceMul, Nat.reduceSub, Nat.reduceLT, Int.reduceToNat]))
    have hin : i < n := by omega
    have hst : oddN A B (i + 1) = (oddN A B i != (A.testBit i && B.testBit i)) := rfl
    (try (simp (disch := first | omega | (simp <;> omega) | fail) only [push_cast, ↓reduceIte, Nat.reduceEqDiff, Nat.reduceAdd, Nat.reduceMul, Nat.reduceSub, Nat.reduceLT, Int.reduceToNat]))
    refine (c_spec_biAt ⟨n, wa⟩ A m i hwa (by omega) (by omega)).call ?_
    cases ha : A.testBit i
    · rw [ha] at hst
      have h2 : (oddN A B i == false) = !oddN A B i := by cases oddN A B i <;> rfl
      have h3 : oddN A B (i + 1) = oddN A B i := by rw [hst]; cases oddN A B i <;> rfl
      (try (simp (disch := first | omega | (simp <;> omega) | fail) only [push_cast, ↓reduceIte, Nat.reduceEqDiff, Nat.reduceAdd, Nat.reduceMul, Nat.reduceSub, Nat.reduceLT, Int.reduceToNat, h2]))
      all_goals (try rw [h3])
      cases hq : oddN A B i
      · (try (simp (disch := first | omega | (simp <;> omega) | fail) only [push_cast, ↓reduceIte, Nat.reduceEqDiff, Nat.reduceAdd, Nat.reduceMul, Nat.reduceSub, Nat.reduceLT, Int.reduceToNat, hq]))
        all_goals (try rw [h3, hq])
      · (try (simp (disch := first | omega | (simp <;> omega) | fail) only [push_cast, ↓reduceIte, Nat.reduceEqDiff, Nat.reduceAdd, Nat.reduceMul, Nat.reduceSub, Nat.reduceLT, Int.reduceToNat, hq]))
        all_goals (try rw [h3, hq])
    · rw [ha] at hst
      (try (simp (disch := first | omega | (simp <;> omega) | fail) only [push_cast, ↓reduceIte, Nat.reduceEqDiff, Nat.reduceAdd, Nat.reduceMul, Nat.reduceSub, Nat.reduceLT, Int.reduceToNat]))
      refine (c_spec_biAt ⟨nb, wb⟩ B m i hwb (by omega) (by omega)).call ?_
      cases hq : oddN A B i
      · rw [hq] at hst
        cases hb : B.testBit i
        · rw [hb] at hst
          (try (simp (disch := first | omega | (simp <;> omega) | fail) only [push_cast, ↓reduceIte, Nat.reduceEqDiff, Nat.reduceAdd, Nat.reduceMul, Nat.reduceSub, Nat.reduceLT, Int.reduceToNat, hq]))
          all_goals (try (rw [hst]; rfl))
        · rw [hb] at hst
          (try (simp (disch := first | omega | (simp <;> omega) | fail) only [push_cast, ↓reduceIte, Nat.reduceEqDiff, Nat.reduceAdd, Nat.reduceMul, Nat.reduceSub, Nat.reduceLT, Int.reduceToNat, hq]))
          all_goals (try (rw [hst]; rfl))
      · rw [hq] at hst
        cases hb : B.testBit i
        · rw [hb] at hst
          (try (simp (disch := first | omega | (simp <;> omega) | fail) only [push_cast, ↓reduceIte, Nat.reduceEqDiff, Nat.reduceAdd, Nat.reduceMul, Nat.reduceSub, Nat.reduceLT, Int.reduceToNat, hq]))
          all_goals (try (rw [hst]; rfl))
        · rw [hb] at hst
          (try (simp (disch := first | omega | (simp <;> omega) | fail) only [push_cast, ↓reduceIte, Nat.reduceEqDiff, Nat.reduceAdd, Nat.reduceMul, Nat.reduceSub, Nat.reduceLT, Int.reduceToNat, hq]))
          all_goals (try (rw [hst]; rfl))
  · (try (simp only [decide_eq_true_eq, decide_eq_false_iff_not, Bool.not_eq_true', Bool.not_eq_false', Bool.and_eq_true, Bool.or_eq_true, Int.not_lt, Int.not_le] at hc)); (try (simp (disch := first | omega | (simp <;> omega) | fail) only [push_cast, ↓reduceIte, Nat.reduceEqDiff, Nat.reduceAdd, Nat.reduceMul, Nat.reduceSub, Nat.reduceLT, Int.reduceToNat]))
    have hin : i = n := by omega
    subst hin
    (try (simp (disch := first | omega | (simp <;> omega) | fail) only [push_cast, ↓reduceIte, Nat.reduceEqDiff, Nat.reduceAdd, Nat.reduceMul, Nat.reduceSub, Nat.reduceLT, Int.reduceToNat]))

theorem OkE.nn {s : Sy} {n m : Nat} (ho : OkE s n m) : s.size.toNat = n := by
  rw [ho.sz]
  rfl
def nSy (s : Sy) : Nat := s.size.toNat
def linS (s : Sy) : List Nat := (stS s (nSy s) (lB s.rows).length).1
def linI (s : Sy) : List Nat := (stI s (nSy s) (lB s.rows).length).1
def refN (s : Sy) : Nat := (stS s (nSy s) (lB s.rows).length).2
theorem lin_sim (s : Sy) : Sim (nSy s) (stS s (nSy s) (lB s.rows).length) (stI s (nSy s) (lB s.rows).length) := stI_sim
theorem okE_n {s : Sy} (h : okSy s = true) : ∃ m, OkE s (nSy s) m := by
  obtain ⟨n, m, ho⟩ := okE_of h
  have := ho.nn
  unfold nSy
  rw [this]
  exact ⟨m, ho⟩
def rankV (s : Sy) : AV := if okSy s then .tup [.int .i64 (linS s).length, .bool true] else .tup [.int .i64 0, .bool false]
theorem rankV_tup (s : Sy) : ∃ n b, rankV s = .tup [.int .i64 n, .bool b] := by
  unfold rankV
  split <;> exact ⟨_, _, rfl⟩
theorem free_rankV {s : Sy} : Free (rankV s) := by
  obtain ⟨n, b, h⟩ := rankV_tup s
  rw [h]
  exact free_tup (free_cons_ free_int (free_cons_ free_bool free_nil_))

def FlI (h h' : H) (n m bb x : Nat) : Prop :=
  h.length + 2 ≤ h'.length ∧ h'.cells h.length = some [.int .i64 n, .sl bb 0 1 m m] ∧ h'.cells (h.length + 1) = some [.int .i64 0, .nils] ∧ h'.cells bb = some ((wordsN x m).map (.int .i64)) ∧ bb < h.length ∧ ∀ c, c < h.length → c ≠ bb → h'[c]? = h[c]?
theorem FlI.app {h h' l : H} {n m bb x : Nat} (hr : FlI h h' n m bb x) : FlI h (h' ++ l) n m bb x := by
  obtain ⟨h1, h2, h3, h4, h5, h6⟩ := hr
  exact ⟨by simp; omega, cells_app h2, cells_app h3, cells_app h4, h5, fun c hc hn => (List.getElem?_append_left (by omega)).trans (h6 c hc hn)⟩
theorem FlI.put {h h' h2 : H} {n m bb x y : Nat} (hr : FlI h h' n m bb x) (hl : h'.length ≤ h2.length) (hf : ∀ b', b' < h'.length → b' ≠ bb → h2[b']? = h'[b']?) (hc : h2.cells bb = some ((wordsN y m).map (.int .i64))) : FlI h h2 n m bb y := by
  obtain ⟨h1, h2, h3, h4, h5, h6⟩ := hr
  exact ⟨by omega, cells_keep (hf _ (by omega) (by omega)) h2, cells_keep (hf _ (by omega) (by omega)) h3, hc, h5, fun c hc hn => (hf c (by omega) hn).trans (h6 c hc hn)⟩
theorem fillCol_take {n i k x : Nat} {q : Bool} {L : List Nat} (hk : k < L.length) : fillColS n q (L.take (k + 1)) i x = fillStep n q i (fillColS n q (L.take k) i x) (L.getD k 0) := by
  unfold fillColS
  rw [List.take_add_one, List.foldl_append]
  simp [hk]
theorem oddN_mod {n A B : Nat} : oddN (A % 2 ^ n) B n = oddN A B n := oddN_congr fun j hj => by
  rw [Nat.testBit_mod_two_pow]
  simp [hj]
def solN (s : Sy) : Nat := fillS (nSy s) true (linS s) 0 (nSy s)
theorem fillS_lt {n : Nat} {q : Bool} {L : List Nat} {x j : Nat} (hj : j ≤ n) (hx : ∀ c, n ≤ c → x.testBit c = false) : ∀ c, n ≤ c → (fillS n q L x j).testBit c = false := fun c hc => by
  rw [fillS_keep hj (.inr hc)]
  exact hx c hc
theorem setP_hi {n : Nat} {g : Nat → Bool} {M : List Nat} {y c : Nat} (hM : ∀ e ∈ M, lead n e < n) (hc : n ≤ c) : (setP n g M y).testBit c = y.testBit c := setP_free fun hh => by
  obtain ⟨e, he, hec⟩ := List.mem_map.1 hh
  have := hM e he
  omega
theorem sol_eq {s : Sy} {M : List Nat} (hp : M.Perm (linI s)) : setP (nSy s) (fun e => e.testBit (nSy s)) M 0 = solN s := by
  have hs := lin_sim s
  have h1 := piv_eq hs (x := 0) (fun l _ => by simp) (pivV_solve hs.ei hs.rr hp)
  refine Nat.eq_of_testBit_eq fun c => ?_
  by_cases hc : c < nSy s
  · exact h1 c hc
  · rw [setP_hi (fun e he => hs.ei.lt e (hp.mem_iff.1 he)) (by omega)]
    unfold solN
    rw [fillS_lt (Nat.le_refl _) (fun c _ => by simp) c (by omega)]
    simp
def mSy (s : Sy) : Nat := (nSy s + 15) / 16
theorem OkE.mm {s : Sy} {m : Nat} (ho : OkE s (nSy s) m) : m = mSy s := by
  have := ho.hm
  unfold mSy
  omega
def solB (s : Sy) : Bt := if okSy s ∧ refN s = 0 then ⟨nSy s, some (wordsN (solN s) (mSy s))⟩ else ⟨0, none⟩
def solq (s : Sy) : Bool := okSy s && decide (refN s = 0)
def solV (s : Sy) : AV := .tup [eB (solB s), .bool (solq s)]
theorem free_solV {s : Sy} : Free (solV s) := free_tup (free_cons_ free_eB (free_cons_ free_bool free_nil_))
theorem solB_len {s : Sy} : (lI (solB s).words).length ≤ 5 := by
  unfold solB
  split
  · rename_i h
    obtain ⟨m, ho⟩ := okE_n h.1
    have h2 := ho.n2
    have h3 : (lI (some (wordsN (solN s) (mSy s)))).length = mSy s := wordsN_len
    show (lI (some (wordsN (solN s) (mSy s)))).length ≤ 5
    rw [h3]
    unfold mSy
    omega
  · simp [lI]

set_option maxHeartbeats 2000000 in
theorem c_spec_reFill (n m bb x : Nat) (L : List Nat) (q : Bool) (h : H) (hb : h.cells bb = some ((wordsN x m).map (.int .i64))) (hL : L.length ≤ 1000) (hm : n ≤ 16 * m) (hm2 : m ≤ 1000) (hn1 : 1 ≤ n) :
    Call Try.prog 80 [eLs n m (optN L), .agg [.int .i64 n, .sl bb 0 1 m m], .bool q] h (fun b' => b' = bb) (fun y h' => y = .agg [.int .i64 n, .sl bb 0 1 m m] ∧ h.length ≤ h'.length ∧ h'.cells bb = some ((wordsN (fillS n q L x n) m).map (.int .i64)) ∧ ∀ c, c < h.length → c ≠ bb → h'[c]? = h[c]?) := by
  refine enter (by kernel_rfl) e80 (by kernel_rfl) rfl fun hok => ?_
  simp only [r80, initEnv_3]
  have hbl := cells_lt hb
  (try (simp (disch := first | omega | (simp <;> omega) | fail) only [push_cast, ↓reduceIte, Nat.reduceEqDiff, Nat.reduceAdd, Nat.reduceMul, Nat.reduceSub, Nat.reduceLT, Int.reduceToNat]))
  refine T_for n (fun j e h' => Pins e [(0, eLs n m (optN L)), (2, .bool q), (4, .adr h.length 0), (6, .adr (h.length + 1) 0), (7, .int .i64 ((n : Int) - 1 - j))] ∧ FlI h h' n m bb (fillS n q L x j)) ?_ ?_
  · (try (simp (disch := first | omega | (simp <;> omega) | fail) only [push_cast, ↓reduceIte, Nat.reduceEqDiff, Nat.reduceAdd, Nat.reduceMul, Nat.reduceSub, Nat.reduceLT, Int.reduceToNat]))
    all_goals (try exact ⟨by simp, by rw [cells_h0]; rfl, by rw [cells_hk]; rfl, cells_app hb, hbl, fun c hc _ => List.getElem?_append_left hc⟩)
    all_goals (try exact ⟨by omega, by simp, by rw [cells_h0]; rfl, by rw [cells_hk]; rfl, cells_app hb, hbl, fun c hc _ => List.getElem?_append_left hc⟩)
  rintro j e h' hj ⟨hp, hr⟩
  refine T_pins hp fun e => ?_
  (try (simp (disch := first | omega | (simp <;> omega) | fail) only [push_cast, ↓reduceIte, Nat.reduceEqDiff, Nat.reduceAdd, Nat.reduceMul, Nat.reduceSub, Nat.reduceLT, Int.reduceToNat]))
  first | refine goC_split (fun hc => ?_) (fun hc => ?_) | refine cnd_split (fun hc => ?_) (fun hc => ?_)
  · (try (simp only [decide_eq_true_eq, decide_eq_false_iff_not, Bool.not_eq_true', Bool.not_eq_false', Bool.and_eq_true, Bool.or_eq_true, Int.not_lt, Int.not_le] at hc)); (try (simp (disch := first | omega | (simp <;> omega) | fail) only [push_cast, ↓reduceIte, Nat.reduceEqDiff, Nat.reduceAdd, Nat.reduceMul, Nat.reduceSub, Nat.reduceLT, Int.reduceToNat]))
    have hjn : j < n := by omega
    obtain ⟨i, hi⟩ : ∃ i, i = n - 1 - j := ⟨_, rfl⟩
    have hii : (n : Int) - 1 - (j : Int) = (i : Int) := by omega
    have hin : i < n := by omega
    have hnx : (i : Int) - 1 = (n : Int) - 1 - ((j : Int) + 1) := by omega
    have hfs : fillS n q L x (j + 1) = fillColS n q L i (fillS n q L x j) := by rw [fillS, hi]
    (try (simp (disch := first | omega | (simp <;> omega) | fail) only [push_cast, ↓reduceIte, Nat.reduceEqDiff, Nat.reduceAdd, Nat.reduceMul, Nat.reduceSub, Nat.reduceLT, Int.reduceToNat, hii, lenA_eLs, lL_optN]))
    refine T_for L.length (fun k e h' => Pins e [(0, eLs n m (optN L)), (2, .bool q), (4, .adr h.length 0), (6, .adr (h.length + 1) 0), (7, .int .i64 i), (17, eLs n m (optN L)), (18, .int .i64 L.length), (19, .int .i64 k)] ∧ FlI h h' n m bb (fillColS n q (L.take k) i (fillS n q L x j))) ?_ ?_
    · (try (simp (disch := first | omega | (simp <;> omega) | fail) only [push_cast, ↓reduceIte, Nat.reduceEqDiff, Nat.reduceAdd, Nat.reduceMul, Nat.reduceSub, Nat.reduceLT, Int.reduceToNat]))
      all_goals (try exact hr)
    clear hp hr
    rintro k e h' hk ⟨hp, hr⟩
    refine T_pins hp fun e => ?_
    (try (simp (disch := first | omega | (simp <;> omega) | fail) only [push_cast, ↓reduceIte, Nat.reduceEqDiff, Nat.reduceAdd, Nat.reduceMul, Nat.reduceSub, Nat.reduceLT, Int.reduceToNat]))
    first | refine goC_split (fun hd => ?_) (fun hd => ?_) | refine cnd_split (fun hd => ?_) (fun hd => ?_)
    · (try (simp only [decide_eq_true_eq, decide_eq_false_iff_not, Bool.not_eq_true', Bool.not_eq_false', Bool.and_eq_true, Bool.or_eq_true, Int.not_lt, Int.not_le] at hd)); (try (simp (disch := first | omega | (simp <;> omega) | fail) only [push_cast, ↓reduceIte, Nat.reduceEqDiff, Nat.reduceAdd, Nat.reduceMul, Nat.reduceSub, Nat.reduceLT, Int.reduceToNat]))
      have hk2 : k < L.length := by omega
      have hst := fillCol_take (n := n) (q := q) (i := i) (x := fillS n q L x j) hk2
      generalize fillColS n q (L.take k) i (fillS n q L x j) = X at hr hst
      have hia : iaddrA 4 (eLs n m (optN L)) (.int .i64 (k : Int)) = some (.rad (L.flatMap (cLn n m)) (k * 4)) := by
        rw [iaddr_eLs (by omega) (by rw [lL_optN]; omega), lL_optN]
        rfl
      have hld := ld_Ln (n := n) (m := m) hk2
      generalize L.getD k 0 = l at hst hld
      have hcx : cLn n m l = [.int .i64 n, eI (some (wordsN (l % 2 ^ n) m)), .bool (l.testBit n), eI (optL (setL (l >>> (n + 1))))] := rfl
      rw [hcx] at hld
      have hr0 := hr.app (l := [some (.cells [.int .i64 n, eI (some (wordsN (l % 2 ^ n) m)), .bool (l.testBit n), eI (optL (setL (l >>> (n + 1))))])])
      obtain ⟨r1, r2, r3, r4, r5, r6⟩ := hr
      have r2' := cells_app (l := [some (.cells [.int .i64 n, eI (some (wordsN (l % 2 ^ n) m)), .bool (l.testBit n), eI (optL (setL (l >>> (n + 1))))])]) r2
      have r4' := cells_app (l := [some (.cells [.int .i64 n, eI (some (wordsN (l % 2 ^ n) m)), .bool (l.testBit n), eI (optL (setL (l >>> (n + 1))))])]) r4
      (try (simp (disch := first | omega | (simp <;> omega) | fail) only [push_cast, ↓reduceIte, Nat.reduceEqDiff, Nat.reduceAdd, Nat.reduceMul, Nat.reduceSub, Nat.reduceLT, Int.reduceToNat, hia, hld]))
      refine (c_spec_reFirst2 (some (wordsN (l % 2 ^ n) m)) n m (l % 2 ^ n) rfl hm (by omega)).call ?_
      rw [leadI_mod]
      have hLi : (leadI n l = (i : Int)) ↔ lead n l = i := by
        unfold leadI
        split <;> omega
      unfold fillStep at hst
      by_cases hli : lead n l = i
      · have hli2 : leadI n l = (i : Int) := hLi.2 hli
        (try (simp (disch := first | omega | (simp <;> omega) | fail) only [push_cast, ↓reduceIte, Nat.reduceEqDiff, Nat.reduceAdd, Nat.reduceMul, Nat.reduceSub, Nat.reduceLT, Int.reduceToNat, hli2, r2']))
        have hodd := c_spec_reOdd (some (wordsN (l % 2 ^ n) m)) (some (wordsN X m)) n n m (l % 2 ^ n) X rfl rfl hm hm2
        rw [oddN_mod] at hodd
        refine hodd.lendL (.free (free_eB (b := ⟨n, some (wordsN (l % 2 ^ n) m)⟩)) (.cons (vw_B (Nat.zero_le _) r4' wordsN_len) .nil)) own_bool ?_
        by_cases hne : oddN l X n = rgt q n l
        · rw [if_neg (fun h5 => h5.2 hne)] at hst
          have hX : fillColS n q (L.take (k + 1)) i (fillS n q L x j) = X := hst
          unfold rgt at hne
          cases q
          · rw [Bool.false_and] at hne
            (try (simp (disch := first | omega | (simp <;> omega) | fail) only [push_cast, ↓reduceIte, Nat.reduceEqDiff, Nat.reduceAdd, Nat.reduceMul, Nat.reduceSub, Nat.reduceLT, Int.reduceToNat, hne, r2']))
            all_goals (try (rw [hX]; exact hr0))
          · rw [Bool.true_and] at hne
            cases hln : l.testBit n
            · rw [hln] at hne hr0 r2' r4'
              (try (simp (disch := first | omega | (simp <;> omega) | fail) only [push_cast, ↓reduceIte, Nat.reduceEqDiff, Nat.reduceAdd, Nat.reduceMul, Nat.reduceSub, Nat.reduceLT, Int.reduceToNat, hne, hln, r2']))
              all_goals (try (rw [hX]; exact hr0))
            · rw [hln] at hne hr0 r2' r4'
              (try (simp (disch := first | omega | (simp <;> omega) | fail) only [push_cast, ↓reduceIte, Nat.reduceEqDiff, Nat.reduceAdd, Nat.reduceMul, Nat.reduceSub, Nat.reduceLT, Int.reduceToNat, hne, hln, r2']))
              all_goals (try (rw [hX]; exact hr0))
        · rw [if_pos ⟨hli, hne⟩] at hst
          have hset := c_spec_biSet n bb m X i _ r4' (by omega) (by omega)
          have hfin : ∀ (y : AV) (h2 : H), ((h' ++ [some (AObj.cells [AV.int .i64 n, eI (some (wordsN (l % 2 ^ n) m)), .bool (l.testBit n), eI (optL (setL (l >>> (n + 1))))])]).length ≤ h2.length ∧ (∀ b', b' < (h' ++ [some (AObj.cells [AV.int .i64 n, eI (some (wordsN (l % 2 ^ n) m)), .bool (l.testBit n), eI (optL (setL (l >>> (n + 1))))])]).length → b' ≠ bb → h2[b']? = (h' ++ [some (AObj.cells [AV.int .i64 n, eI (some (wordsN (l % 2 ^ n) m)), .bool (l.testBit n), eI (optL (setL (l >>> (n + 1))))])])[b']?) ∧ h2.cells bb = some ((wordsN (X ||| 2 ^ i) m).map (.int .i64))) → FlI h h2 n m bb (fillColS n q (L.take (k + 1)) i (fillS n q L x j)) := fun y h2 hy => by
            rw [hst]
            exact hr0.put hy.1 hy.2.1 hy.2.2
          unfold rgt at hne
          clear hst hr0
          cases q
          · rw [Bool.false_and, Bool.not_eq_false] at hne
            (try (simp (disch := first | omega | (simp <;> omega) | fail) only [push_cast, ↓reduceIte, Nat.reduceEqDiff, Nat.reduceAdd, Nat.reduceMul, Nat.reduceSub, Nat.reduceLT, Int.reduceToNat, hne, r2']))
            refine hset.mono (fun y h2 hy => ?_) (fun b' _ hb' => Or.inl hb')
            have := hfin y h2 hy
            (try (simp (disch := first | omega | (simp <;> omega) | fail) only [push_cast, ↓reduceIte, Nat.reduceEqDiff, Nat.reduceAdd, Nat.reduceMul, Nat.reduceSub, Nat.reduceLT, Int.reduceToNat]))
            all_goals (try exact this)
          · rw [Bool.true_and] at hne
            cases hln : l.testBit n
            · rw [hln, Bool.not_eq_false] at hne
              rw [hln] at hfin hset r2' r4'
              (try (simp (disch := first | omega | (simp <;> omega) | fail) only [push_cast, ↓reduceIte, Nat.reduceEqDiff, Nat.reduceAdd, Nat.reduceMul, Nat.reduceSub, Nat.reduceLT, Int.reduceToNat, hne, hln, r2']))
              refine hset.mono (fun y h2 hy => ?_) (fun b' _ hb' => Or.inl hb')
              have := hfin y h2 hy
              (try (simp (disch := first | omega | (simp <;> omega) | fail) only [push_cast, ↓reduceIte, Nat.reduceEqDiff, Nat.reduceAdd, Nat.reduceMul, Nat.reduceSub, Nat.reduceLT, Int.reduceToNat]))
              all_goals (try exact this)
            · rw [hln, Bool.not_eq_true] at hne
              rw [hln] at hfin hset r2' r4'
              (try (simp (disch := first | omega | (simp <;> omega) | fail) only [push_cast, ↓reduceIte, Nat.reduceEqDiff, Nat.reduceAdd, Nat.reduceMul, Nat.reduceSub, Nat.reduceLT, Int.reduceToNat, hne, hln, r2']))
              refine hset.mono (fun y h2 hy => ?_) (fun b' _ hb' => Or.inl hb')
              have := hfin y h2 hy
              (try (simp (disch := first | omega | (simp <;> omega) | fail) only [push_cast, ↓reduceIte, Nat.reduceEqDiff, Nat.reduceAdd, Nat.reduceMul, Nat.reduceSub, Nat.reduceLT, Int.reduceToNat]))
              all_goals (try exact this)
      · have hli2 : ¬ leadI n l = (i : Int) := fun h => hli (hLi.1 h)
        rw [if_neg (fun h => hli h.1)] at hst
        (try (simp (disch := first | omega | (simp <;> omega) | fail) only [push_cast, ↓reduceIte, Nat.reduceEqDiff, Nat.reduceAdd, Nat.reduceMul, Nat.reduceSub, Nat.reduceLT, Int.reduceToNat, hli2, r2']))
        all_goals (try (rw [hst]; exact hr0))
    · (try (simp only [decide_eq_true_eq, decide_eq_false_iff_not, Bool.not_eq_true', Bool.not_eq_false', Bool.and_eq_true, Bool.or_eq_true, Int.not_lt, Int.not_le] at hd)); (try (simp (disch := first | omega | (simp <;> omega) | fail) only [push_cast, ↓reduceIte, Nat.reduceEqDiff, Nat.reduceAdd, Nat.reduceMul, Nat.reduceSub, Nat.reduceLT, Int.reduceToNat]))
      have hke : k = L.length := by omega
      subst hke
      rw [List.take_length, ← hfs] at hr
      (try (simp (disch := first | omega | (simp <;> omega) | fail) only [push_cast, ↓reduceIte, Nat.reduceEqDiff, Nat.reduceAdd, Nat.reduceMul, Nat.reduceSub, Nat.reduceLT, Int.reduceToNat]))
      all_goals (try exact ⟨by omega, hr⟩)
      all_goals (try exact hr)
  · (try (simp only [decide_eq_true_eq, decide_eq_false_iff_not, Bool.not_eq_true', Bool.not_eq_false', Bool.and_eq_true, Bool.or_eq_true, Int.not_lt, Int.not_le] at hc)); (try (simp (disch := first | omega | (simp <;> omega) | fail) only [push_cast, ↓reduceIte, Nat.reduceEqDiff, Nat.reduceAdd, Nat.reduceMul, Nat.reduceSub, Nat.reduceLT, Int.reduceToNat]))
    have hjn : j = n := by omega
    subst hjn
    obtain ⟨r1, r2, r3, r4, r5, r6⟩ := hr
    have hw := cells_wr2 (h := h') (b := h.length + 1) (by omega) (cs := [AV.int .i64 (j : Int), .sl bb 0 1 m m])
    have hpm : (h.length ≤ h.length + 1) = True := by simp
    (try (simp (disch := first | omega | (simp <;> omega) | fail) only [push_cast, ↓reduceIte, Nat.reduceEqDiff, Nat.reduceAdd, Nat.reduceMul, Nat.reduceSub, Nat.reduceLT, Int.reduceToNat, r2, r3, hpm, hw]))
    all_goals (try exact ⟨by simp [wr]; omega, by rw [cells_eq]; unfold wr; rw [List.getElem?_set_ne (by omega), ← cells_eq]; exact r4, fun c hc hn => by unfold wr; rw [List.getElem?_set_ne (by omega)]; exact r6 c hc hn⟩)

theorem c_spec_reSolve (s : Sy) (m : Nat) (ho : OkE s (nSy s) m) (hk : okSy s = true) : Fn Try.prog 77 [eSy s] (· = solV s) := by
  refine Fn.froze_ fun h => ?_
  unfold solV solB solq
  have hmm := ho.mm
  have hnone : (setL (ofN (nSy s) (refN s))).length = 0 ↔ refN s = 0 := (ho.msk (i := (lB s.rows).length) (Nat.le_refl _)).none (by have := ho.nr; omega)
  unfold solN
  refine enter (by kernel_rfl) e77 (by kernel_rfl) rfl fun hok => ?_
  simp only [r77, initEnv_1]
  have hsz := ho.sz
  have hn1 := ho.n1
  have hn2 := ho.n2
  have hm := ho.hm
  have hnr := ho.nr
  have hlen := stS_len (s := s) (n := nSy s) (i := (lB s.rows).length)
  (try (simp (disch := first | omega | (simp <;> omega) | fail) only [push_cast, ↓reduceIte, Nat.reduceEqDiff, Nat.reduceAdd, Nat.reduceMul, Nat.reduceSub, Nat.reduceLT, Int.reduceToNat]))
  refine (c_spec_reLines s _ m ho).call ?_
  unfold linesV
  have hL : (stS s (nSy s) (lB s.rows).length).1 = linS s := rfl
  have hR : (stS s (nSy s) (lB s.rows).length).2 >>> (nSy s + 1) = ofN (nSy s) (refN s) := rfl
  rw [hL] at hlen
  rw [hL, hR]
  rw [← hmm]
  generalize nSy s = n at *
  generalize linS s = L at *
  generalize ofN n (refN s) = R at *
  clear hL hR
  by_cases h0 : refN s = 0
  · have hz : ¬ (0 : Int) < ((lI (optL (setL R))).length : Int) := by
      rw [lI_optL]
      have := hnone.2 h0
      omega
    have hcond : (okSy s = true ∧ refN s = 0) = True := by simp [hk, h0]
    have hq : (okSy s && decide (refN s = 0)) = true := by simp [hk, h0]
    rw [hq]
    simp only [hcond, if_true]
    (try (simp (disch := first | omega | (simp <;> omega) | fail) only [push_cast, ↓reduceIte, Nat.reduceEqDiff, Nat.reduceAdd, Nat.reduceMul, Nat.reduceSub, Nat.reduceLT, Int.reduceToNat, hz, hsz]))
    refine (c_spec_biNew_own n m (by omega) hm _).mono (fun x h1 hx => ?_) (fun _ _ h => h.elim)
    obtain ⟨bb, rfl, hbb, ⟨p, hp⟩, hcb⟩ := hx
    have hbb2 : h.length + 2 ≤ bb := by simp at hbb; omega
    have f2 : h1.cells (h.length + 1) = some [.int .i64 0, .nils] := by
      rw [hp]
      refine cells_app ?_
      rw [cells_hk]
      rfl
    have hl1 : h.length + 2 ≤ h1.length := by rw [hp]; simp
    clear hp
    (try (simp (disch := first | omega | (simp <;> omega) | fail) only [push_cast, ↓reduceIte, Nat.reduceEqDiff, Nat.reduceAdd, Nat.reduceMul, Nat.reduceSub, Nat.reduceLT, Int.reduceToNat]))
    refine (c_spec_reFill n m bb 0 L true h1 hcb (by omega) (by omega) (by omega) hn1).mono (fun y h2 hy => ?_) (fun b' _ hb' => Or.inr (by omega))
    obtain ⟨rfl, y1, y2, y3⟩ := hy
    have f3 := cells_keep (y3 (h.length + 1) (by omega) (by omega)) f2
    have hw := cells_wr2 (h := h2) (b := h.length + 1) (by omega) (cs := [AV.int .i64 (n : Int), .sl bb 0 1 m m])
    have hpm : (h.length ≤ h.length + 1) = True := by simp
    (try (simp (disch := first | omega | (simp <;> omega) | fail) only [push_cast, ↓reduceIte, Nat.reduceEqDiff, Nat.reduceAdd, Nat.reduceMul, Nat.reduceSub, Nat.reduceLT, Int.reduceToNat, f3, hpm, hw]))
    refine ⟨.tup [eB ⟨n, some (wordsN (fillS n true L 0 n) m)⟩, .bool true], .tup rfl fun k y t hy ht => ?_, rfl⟩
    rcases k with _ | _ | k
    · simp at hy ht
      subst hy ht
      refine vw_B (by omega) (b := bb) (ws := wordsN (fillS n true L 0 n) m) ?_ wordsN_len
      rw [cells_eq]
      unfold wr
      rw [List.getElem?_set_ne (by omega), ← cells_eq]
      exact y2
    · simp at hy ht
      subst hy ht
      exact .free free_bool
    · simp at hy
  · have hz : (0 : Int) < ((lI (optL (setL R))).length : Int) := by
      rw [lI_optL]
      have : (setL R).length ≠ 0 := fun h5 => h0 (hnone.1 h5)
      omega
    have hcond : (okSy s = true ∧ refN s = 0) = False := by simp [h0]
    have hq : (okSy s && decide (refN s = 0)) = false := by simp [h0]
    rw [hq]
    simp only [hcond, if_false]
    (try (simp (disch := first | omega | (simp <;> omega) | fail) only [push_cast, ↓reduceIte, Nat.reduceEqDiff, Nat.reduceAdd, Nat.reduceMul, Nat.reduceSub, Nat.reduceLT, Int.reduceToNat, hz]))
    exact ⟨_, .free (free_tup (free_cons_ (free_eB (b := ⟨0, none⟩)) (free_cons_ free_bool free_nil_))), rfl⟩

theorem c_spec_SolveSystem (s : Sy) : Fn Try.prog 33 [eSy s] (· = solV s) := by
  refine Fn.of free_solV fun h => ?_
  refine enter (by kernel_rfl) e33 (by kernel_rfl) rfl fun hok => ?_
  simp only [r33, initEnv_1]
  (try (simp (disch := first | omega | (simp <;> omega) | fail) only [push_cast, ↓reduceIte, Nat.reduceEqDiff, Nat.reduceAdd, Nat.reduceMul, Nat.reduceSub, Nat.reduceLT, Int.reduceToNat]))
  refine (c_spec_reGood s).call ?_
  cases hk : okSy s
  · have hv : solV s = .tup [.agg [.int .i64 0, .nils], .bool false] := by
      unfold solV solB solq
      rw [hk]
      simp only [Bool.false_eq_true, false_and, if_false, Bool.false_and]
      rfl
    rw [hv]
    (try (simp (disch := first | omega | (simp <;> omega) | fail) only [push_cast, ↓reduceIte, Nat.reduceEqDiff, Nat.reduceAdd, Nat.reduceMul, Nat.reduceSub, Nat.reduceLT, Int.reduceToNat]))
  obtain ⟨m, ho⟩ := okE_n hk
  (try (simp (disch := first | omega | (simp <;> omega) | fail) only [push_cast, ↓reduceIte, Nat.reduceEqDiff, Nat.reduceAdd, Nat.reduceMul, Nat.reduceSub, Nat.reduceLT, Int.reduceToNat]))
  refine (c_spec_reSolve s m ho hk).call ?_
  unfold solV eB cB
  (try (simp (disch := first | omega | (simp <;> omega) | fail) only [push_cast, ↓reduceIte, Nat.reduceEqDiff, Nat.reduceAdd, Nat.reduceMul, Nat.reduceSub, Nat.reduceLT, Int.reduceToNat]))

theorem c_impl_blank_own (n m : Nat) (hn : n ≤ 1000000) (hm : (((n : Int) + 15) / 16) = (m : Int)) (h : H) : Call Try.prog 67 [.int .i64 n] h Nowhere (fun x h' => BnI h h' n m x) := by
  refine enter (by kernel_rfl) e67 (by kernel_rfl) rfl fun hok => ?_
  simp only [r67, initEnv_1]
  (try (simp (disch := first | omega | (simp <;> omega) | fail) only [push_cast, ↓reduceIte, Nat.reduceEqDiff, Nat.reduceAdd, Nat.reduceMul, Nat.reduceSub, Nat.reduceLT, Int.reduceToNat]))
  refine (c_impl_words n (by omega) (by omega)).call ?_
  (try (simp (disch := first | omega | (simp <;> omega) | fail) only [push_cast, ↓reduceIte, Nat.reduceEqDiff, Nat.reduceAdd, Nat.reduceMul, Nat.reduceSub, Nat.reduceLT, Int.reduceToNat, hm]))
  all_goals (try exact ⟨h.length + 1, rfl, by omega, ⟨_, rfl⟩, by rw [cells_hk]; simp [cellsO, rep_words]⟩)

theorem c_impl_Bits_set (m B i b5 o bb : Nat) (on : Bool) (cs : List AV) (h : H) (h5 : h.cells b5 = some cs) (h1 : cs[o + 1]? = some (.sl bb 0 1 m m)) (hb : h.cells bb = some ((wordsN B m).map (.int .i64))) (hi : i < 16 * m) (hm : m ≤ 1000) (hne : b5 ≠ bb) :
    Call Try.prog 81 [.adr b5 o, .int .i64 i, .bool on] h (fun b' => b' = bb) (fun _ h' => h'.length = h.length ∧ (∀ c, c ≠ bb → h'[c]? = h[c]?) ∧ h'.cells bb = some ((wordsN (setB B i on) m).map (.int .i64))) := by
  refine enter (by kernel_rfl) e81 (by kernel_rfl) rfl fun hok => ?_
  simp only [r81, initEnv_3]
  have hbl := cells_lt hb
  have e1 : ((i : Int) / 16).toNat = i / 16 := by omega
  have e2 : ((i : Int) % 16).toNat = i % 16 := by omega
  obtain ⟨v, hv⟩ : ∃ v : Nat, v = 2 ^ (i % 16) := ⟨_, rfl⟩
  have hvl : v < 65536 := by
    rw [hv]
    have : 2 ^ (i % 16) < 2 ^ 16 := Nat.pow_lt_pow_right (by decide) (by omega)
    simpa using this
  have hsh := shl16 (j := i % 16) (by omega)
  rw [← hv] at hsh
  have hwl := wordN_lt (B := B) (k := i / 16)
  obtain ⟨r, hr⟩ : ∃ r : Nat, r = wordN B (i / 16) ^^^ (wordN B (i / 16) &&& v) := ⟨_, rfl⟩
  have han := bitsI_andNot (x := wordN B (i / 16)) (y := v) (by omega) (by omega)
  rw [← hr] at han
  have hlen : ((wordsN B m).map (AV.int .i64)).length = m := by simp [wordsN_len]
  have hgi : ((wordsN B m).map (AV.int .i64))[i / 16]? = some (.int .i64 (wordN B (i / 16) : Int)) := by
    rw [get_I (by rw [wordsN_len]; omega), wordsN_get (by omega)]
  obtain ⟨C, hC⟩ : ∃ C, C = B ^^^ (B &&& 2 ^ i) := ⟨_, rfl⟩
  have hos : over ((wordsN B m).map (AV.int .i64)) (i / 16) [.int .i64 (r : Int)] = (wordsN C m).map (.int .i64) := by
    rw [over_set (by rw [hlen]; omega), hC, ← wordsN_clr hi, ← hv, ← hr, List.map_set]
  have hpm : (bb = bb) = True := by simp
  have w5 : H.cells (wr h bb ((wordsN C m).map (.int .i64))) b5 = some cs := by
    rw [cells_eq]
    unfold wr
    rw [List.getElem?_set_ne (Ne.symm hne), ← cells_eq]
    exact h5
  have wb : H.cells (wr h bb ((wordsN C m).map (.int .i64))) bb = some ((wordsN C m).map (.int .i64)) := cells_wr2 hbl
  have hlen2 : ((wordsN C m).map (AV.int .i64)).length = m := by simp [wordsN_len]
  have hgi2 : ((wordsN C m).map (AV.int .i64))[i / 16]? = some (.int .i64 (wordN C (i / 16) : Int)) := by
    rw [get_I (by rw [wordsN_len]; omega), wordsN_get (by omega)]
  have hwl2 := wordN_lt (B := C) (k := i / 16)
  obtain ⟨r2, hr2⟩ : ∃ r : Nat, r = wordN C (i / 16) ||| v := ⟨_, rfl⟩
  have hor := bitsI_or (x := wordN C (i / 16)) (y := v) (by omega) (by omega)
  rw [← hr2] at hor
  have hos2 : over ((wordsN C m).map (AV.int .i64)) (i / 16) [.int .i64 (r2 : Int)] = (wordsN (C ||| 2 ^ i) m).map (.int .i64) := by
    rw [over_set (by rw [hlen2]; omega), ← wordsN_set hi, ← hv, ← hr2, List.map_set]
  have hres : setB B i on = if on then C ||| 2 ^ i else C := by
    unfold setB
    rw [hC]
    cases on <;> simp
  have hfr1 : ∀ c, c ≠ bb → (wr h bb ((wordsN C m).map (.int .i64)))[c]? = h[c]? := fun c hc => by
    unfold wr
    rw [List.getElem?_set_ne (Ne.symm hc)]
  cases on
  · rw [if_neg (by simp)] at hres
    rw [hres]
    (try (simp (disch := first | omega | (simp <;> omega) | fail) only [push_cast, ↓reduceIte, Nat.reduceEqDiff, Nat.reduceAdd, Nat.reduceMul, Nat.reduceSub, Nat.reduceLT, Int.reduceToNat, h5, h1, hb, e1, e2, hsh, hgi, han, hlen, hos, hpm, reads, List.mem_cons, List.mem_append, List.not_mem_nil, nat_ff, or_self, or_false, false_or, not_false_eq_true]))
    all_goals (try exact ⟨by simp [wr], hfr1, wb⟩)
  · rw [if_pos rfl] at hres
    rw [hres]
    (try (simp (disch := first | omega | (simp <;> omega) | fail) only [push_cast, ↓reduceIte, Nat.reduceEqDiff, Nat.reduceAdd, Nat.reduceMul, Nat.reduceSub, Nat.reduceLT, Int.reduceToNat, h5, h1, hb, e1, e2, hsh, hgi, han, hlen, hos, hpm, w5, wb, hgi2, hor, hlen2, hos2, reads, List.mem_cons, List.mem_append, List.not_mem_nil, nat_ff, or_self, or_false, false_or, not_false_eq_true]))
    all_goals (try exact ⟨by simp [wr], fun c hc => by
      unfold wr
      rw [List.getElem?_set_ne (Ne.symm hc)]
      exact hfr1 c hc, cells_wr2 (by simp [wr]; omega)⟩)

theorem setP_take {n k y : Nat} {g : Nat → Bool} {L : List Nat} (hk : k < L.length) : setP n g (L.take (k + 1)) y = setB (setP n g (L.take k) y) (lead n (L.getD k 0)) (g (L.getD k 0)) := by
  unfold setP
  rw [List.take_add_one, List.foldl_append]
  simp [hk]
def SvI (h h' : H) (n m b6 bb x : Nat) : Prop :=
  h'.cells (h.length + 1) = some [.int .i64 0, .nils] ∧ h'.cells b6 = some [.int .i64 n, .sl bb 0 1 m m] ∧ h'.cells bb = some ((wordsN x m).map (.int .i64)) ∧ h.length + 2 ≤ bb ∧ h.length + 2 ≤ b6 ∧ b6 ≠ bb
theorem SvI.app {h h' l : H} {n m b6 bb x : Nat} (hr : SvI h h' n m b6 bb x) : SvI h (h' ++ l) n m b6 bb x := by
  obtain ⟨h1, h2, h3, h4, h5, h6⟩ := hr
  exact ⟨cells_app h1, cells_app h2, cells_app h3, h4, h5, h6⟩
theorem SvI.put {h h' h2 : H} {n m b6 bb x y : Nat} (hr : SvI h h' n m b6 bb x) (hf : ∀ c, c ≠ bb → h2[c]? = h'[c]?) (hc : h2.cells bb = some ((wordsN y m).map (.int .i64))) : SvI h h2 n m b6 bb y := by
  obtain ⟨h1, h2, h3, h4, h5, h6⟩ := hr
  exact ⟨cells_keep (hf _ (by omega)) h1, cells_keep (hf _ h6) h2, hc, h4, h5, h6⟩
theorem c_impl_solve_o (s : Sy) (m : Nat) (ho : OkE s (nSy s) m) : FnO Try.prog 78 [eSy s] (· = .tup [eB ⟨nSy s, some (wordsN (solN s) m)⟩, .bool (decide (refN s = 0))]) := by
  intro h
  refine enter (by kernel_rfl) e78 (by kernel_rfl) rfl fun hok => ?_
  simp only [r78, initEnv_1]
  have hsz := ho.sz
  have hn1 := ho.n1
  have hn2 := ho.n2
  have hm := ho.hm
  have hnr := ho.nr
  have hll := stI_len (s := s) (n := nSy s) (i := (lB s.rows).length)
  have hmsk := (ho.msk (i := (lB s.rows).length) (Nat.le_refl _)).shr
  have hr : (stI s (nSy s) (lB s.rows).length).2 = refN s := (lin_sim s).ref.symm
  have hmsk2 : ofN (nSy s) (refN s) = 0 ↔ refN s = 0 := hmsk
  (try (simp (disch := first | omega | (simp <;> omega) | fail) only [push_cast, ↓reduceIte, Nat.reduceEqDiff, Nat.reduceAdd, Nat.reduceMul, Nat.reduceSub, Nat.reduceLT, Int.reduceToNat]))
  refine (c_impl_reduced s _ m ho).use ?_
  rintro x ⟨L, hp, rfl⟩
  have hL : L.length ≤ 40 := by
    have := hp.length_eq
    omega
  have hse := sol_eq hp
  have hlead : ∀ l ∈ L, lead (nSy s) l < nSy s := fun l hl => (lin_sim s).ei.lt l (hp.mem_iff.1 hl)
  have hdec : decide (((ofN (nSy s) (refN s) : Nat) : Int) = 0) = decide (refN s = 0) := by
    rw [decide_eq_decide, ← hmsk2]
    omega
  rw [hr]
  clear hp hr hmsk hmsk2 hll
  generalize nSy s = n at *
  generalize ofN n (refN s) = R at *
  (try (simp (disch := first | omega | (simp <;> omega) | fail) only [push_cast, ↓reduceIte, Nat.reduceEqDiff, Nat.reduceAdd, Nat.reduceMul, Nat.reduceSub, Nat.reduceLT, Int.reduceToNat, hsz]))
  refine (c_impl_blank_own n m (by omega) hm _).mono (fun x h1 hx => ?_) (fun _ _ h => h.elim)
  obtain ⟨bb, rfl, hbb, ⟨p, hp⟩, hcb⟩ := hx
  have hbb2 : h.length + 2 ≤ bb := by simp at hbb; omega
  have f2 : h1.cells (h.length + 1) = some [.int .i64 0, .nils] := by
    rw [hp]
    refine cells_app ?_
    rw [cells_hk]
    rfl
  have hl1 : h.length + 2 ≤ h1.length := by rw [hp]; simp
  have hbl := cells_lt hcb
  clear hp
  (try (simp (disch := first | omega | (simp <;> omega) | fail) only [push_cast, ↓reduceIte, Nat.reduceEqDiff, Nat.reduceAdd, Nat.reduceMul, Nat.reduceSub, Nat.reduceLT, Int.reduceToNat, lenA_eQs, lL_optN]))
  refine T_for L.length (fun k e h' => Pins e [(2, .adr (h.length + 1) 0), (5, .int .u64 R), (6, .adr h1.length 0), (17, eQs n m (optN L)), (18, .int .i64 L.length), (19, .int .i64 k)] ∧ SvI h h' n m h1.length bb (setP n (fun e => e.testBit n) (L.take k) 0)) ?_ ?_
  · (try (simp (disch := first | omega | (simp <;> omega) | fail) only [push_cast, ↓reduceIte, Nat.reduceEqDiff, Nat.reduceAdd, Nat.reduceMul, Nat.reduceSub, Nat.reduceLT, Int.reduceToNat]))
    all_goals (try exact ⟨cells_app f2, by rw [cells_h0]; rfl, cells_app hcb, hbb2, hl1, by omega⟩)
  rintro k e h' hk ⟨hp, hr⟩
  refine T_pins hp fun e => ?_
  (try (simp (disch := first | omega | (simp <;> omega) | fail) only [push_cast, ↓reduceIte, Nat.reduceEqDiff, Nat.reduceAdd, Nat.reduceMul, Nat.reduceSub, Nat.reduceLT, Int.reduceToNat]))
  first | refine goC_split (fun hc => ?_) (fun hc => ?_) | refine cnd_split (fun hc => ?_) (fun hc => ?_)
  · (try (simp only [decide_eq_true_eq, decide_eq_false_iff_not, Bool.not_eq_true', Bool.not_eq_false', Bool.and_eq_true, Bool.or_eq_true, Int.not_lt, Int.not_le] at hc)); (try (simp (disch := first | omega | (simp <;> omega) | fail) only [push_cast, ↓reduceIte, Nat.reduceEqDiff, Nat.reduceAdd, Nat.reduceMul, Nat.reduceSub, Nat.reduceLT, Int.reduceToNat]))
    have hk2 : k < L.length := by omega
    have hia : iaddrA 4 (eQs n m (optN L)) (.int .i64 (k : Int)) = some (.rad (L.flatMap (cQ n m)) (k * 4)) := by
      rw [iaddr_eQs (by omega) (by rw [lL_optN]; omega), lL_optN]
      rfl
    have hld := ld_Q (n := n) (m := m) hk2
    have hst := setP_take (n := n) (g := fun e => e.testBit n) (y := 0) hk2
    have hlt := hlead _ (getD_mem (d := 0) hk2)
    generalize L.getD k 0 = l at hst hld hlt
    have hcx : cQ n m l = [.int .i64 n, eI (some (wordsN (l % 2 ^ n) m)), .bool (l.testBit n), .int .u64 (ofN n l : Int)] := rfl
    rw [hcx] at hld
    have hr0 := hr.app (l := [some (.cells (cQ n m l))])
    obtain ⟨r1, r2, r3, r4, r5, r6⟩ := hr0
    have hlh : h.length ≤ h'.length := by
      have := cells_lt hr.1
      omega
    have hnx := c_impl_Bits_next2 (some (wordsN (l % 2 ^ n) m)) n (l % 2 ^ n) m (cQ n m l) 0 rfl rfl rfl (by omega) (by omega)
    rw [lead_mod] at hnx
    (try (simp (disch := first | omega | (simp <;> omega) | fail) only [push_cast, ↓reduceIte, Nat.reduceEqDiff, Nat.reduceAdd, Nat.reduceMul, Nat.reduceSub, Nat.reduceLT, Int.reduceToNat, hia, hld, reads, List.mem_cons, List.mem_append, List.not_mem_nil, nat_ff, or_self, or_false, false_or, not_false_eq_true]))
    refine hnx.lendL ?_ own_int ?_
    · exact .adr (cs := cQ n m l) (by rw [cells_h0]; rfl) free_cQ (.free free_int (.free free_bool .nil))
    (try (simp (disch := first | omega | (simp <;> omega) | fail) only [push_cast, ↓reduceIte, Nat.reduceEqDiff, Nat.reduceAdd, Nat.reduceMul, Nat.reduceSub, Nat.reduceLT, Int.reduceToNat, reads, List.mem_cons, List.mem_append, List.not_mem_nil, nat_ff, or_self, or_false, false_or, not_false_eq_true]))
    refine (c_impl_Bits_set m _ (lead n l) h1.length 0 bb (l.testBit n) _ _ r2 rfl r3 (by omega) (by omega) r6).mono (fun y h2 hy => ?_) (fun b' _ hb' => ⟨Or.inr (by omega), ?_⟩)
    · obtain ⟨y1, y2, y3⟩ := hy
      have hfin := (hr.app (l := [some (.cells (cQ n m l))])).put y2 y3
      rw [← hst] at hfin
      (try (simp (disch := first | omega | (simp <;> omega) | fail) only [push_cast, ↓reduceIte, Nat.reduceEqDiff, Nat.reduceAdd, Nat.reduceMul, Nat.reduceSub, Nat.reduceLT, Int.reduceToNat]))
      all_goals (try exact hfin)
    · subst hb'
      have := cells_lt hr.2.2.1
      (try (simp (disch := first | omega | (simp <;> omega) | fail) only [push_cast, ↓reduceIte, Nat.reduceEqDiff, Nat.reduceAdd, Nat.reduceMul, Nat.reduceSub, Nat.reduceLT, Int.reduceToNat, reads, List.mem_cons, List.mem_append, List.not_mem_nil, nat_ff, or_self, or_false, false_or, not_false_eq_true]))
      all_goals (try omega)
  · (try (simp only [decide_eq_true_eq, decide_eq_false_iff_not, Bool.not_eq_true', Bool.not_eq_false', Bool.and_eq_true, Bool.or_eq_true, Int.not_lt, Int.not_le] at hc)); (try (simp (disch := first | omega | (simp <;> omega) | fail) only [push_cast, ↓reduceIte, Nat.reduceEqDiff, Nat.reduceAdd, Nat.reduceMul, Nat.reduceSub, Nat.reduceLT, Int.reduceToNat]))
    have hke : k = L.length := by omega
    subst hke
    rw [List.take_length, hse] at hr
    obtain ⟨r1, r2, r3, r4, r5, r6⟩ := hr
    have hlt := cells_lt r1
    have hw := cells_wr2 hlt (cs := [AV.int .i64 (n : Int), .sl bb 0 1 m m])
    have hpm : (h.length ≤ h.length + 1) = True := by simp
    have hfin : ∀ q : Bool, ∃ t, Ow (wr h' (h.length + 1) [.int .i64 (n : Int), .sl bb 0 1 m m]) [.tup [.agg [.int .i64 (n : Int), .sl bb 0 1 m m], .bool q]] [t] (fun c => h.length ≤ c) ∧ t = .tup [.agg [.int .i64 (n : Int), eI (some (wordsN (solN s) m))], .bool q] := fun q => by
      refine ⟨_, (Ow.two (F := fun c => h.length ≤ c) (F' := fun _ => False) (Ow.aggOf (.atom rfl (ow_map (f := AV.int .i64) (l := wordsN (solN s) m) (fun _ => rfl) ?_ wordsN_len ?_))) (.atom rfl .nil) (fun c hc => hc) (fun _ h => h.elim)).tupOf, ?_⟩
      · rw [cells_eq]
        unfold wr
        rw [List.getElem?_set_ne (by omega), ← cells_eq]
        exact r3
      · omega
      · simp [eI, wordsN_len]
    cases hq : decide (refN s = 0)
    · rw [hq] at hdec
      (try (simp (disch := first | omega | (simp <;> omega) | fail) only [push_cast, ↓reduceIte, Nat.reduceEqDiff, Nat.reduceAdd, Nat.reduceMul, Nat.reduceSub, Nat.reduceLT, Int.reduceToNat, r2, r1, hpm, hw, hdec]))
      exact hfin _
    · rw [hq] at hdec
      (try (simp (disch := first | omega | (simp <;> omega) | fail) only [push_cast, ↓reduceIte, Nat.reduceEqDiff, Nat.reduceAdd, Nat.reduceMul, Nat.reduceSub, Nat.reduceLT, Int.reduceToNat, r2, r1, hpm, hw, hdec]))
      exact hfin _

theorem ow_sys {h : H} {x : AV} {z : Int} {l : List Bt} {q : List Bool} {G : Nat → Prop} (ho : Ow h [x] [eSy ⟨z, some l, some q⟩] G) : ∃ b1 b2, x = .agg [.int .i64 z, .sl b1 0 2 l.length l.length, .sl b2 0 1 q.length q.length] := by
  obtain ⟨cs, rfl, h1⟩ := Ow.openAgg (show Ow h [x] [.agg [.int .i64 z, eBS (some l), eO (some q)]] G from ho)
  have hl : cs.length = 3 := h1.len.symm
  match cs, hl, h1 with
  | [x1, x2, x3], _, h1 =>
    obtain ⟨F, F', f1, f2, f3, f4⟩ := h1.uncons
    obtain ⟨A, B, a1, a2, a3, a4⟩ := f2.uncons
    have e1 : x1 = .int .i64 z := f1.atomOf rfl
    obtain ⟨b1, e2⟩ := Ow.sl1 (show Ow h [x2] [.ro 2 _ _] A from a1)
    obtain ⟨b2, e3⟩ := Ow.sl1 (show Ow h [x3] [.ro 1 _ _] B from a2)
    subst e1 e2 e3
    exact ⟨b1, b2, rfl⟩
theorem ow_ints {h : H} {x : AV} {a : Option (List Int)} {G : Nat → Prop} (ho : Ow h [x] [eI a] G) : one x = true ∧ cellsOf x = [x] := by
  cases a with
  | none => have : x = .nils := ho.atomOf rfl; rw [this]; exact ⟨rfl, rfl⟩
  | some l => obtain ⟨b, e⟩ := Ow.sl1 (show Ow h [x] [.ro 1 _ _] G from ho); rw [e]; exact ⟨rfl, rfl⟩
theorem ow_tup2 {h : H} {x t1 : AV} {q : Bool} {G : Nat → Prop} (ho : Ow h [x] [.tup [t1, .bool q]] G) : ∃ y, x = .tup [y, .bool q] ∧ Ow h [y] [t1] G := by
  obtain ⟨cs, rfl, h1⟩ := ho.openTup
  have hl : cs.length = 2 := h1.len.symm
  match cs, hl, h1 with
  | [x1, x2], _, h1 =>
    obtain ⟨F, F', f1, f2, f3, f4⟩ := h1.uncons
    have e2 : x2 = .bool q := f2.atomOf rfl
    subst e2
    exact ⟨x1, rfl, f1.mono f3⟩
theorem offB_cp {s : Sy} : offB (lB (cpSy s).rows) + (lO (cpSy s).right).length = wSy s := by
  unfold wSy wBS offB cpSy
  simp only [lB, lO, List.map_map]
  have : ∀ l : List Bt, (l.map ((fun b : Bt => 1 + (lI b.words).length) ∘ cpB)).sum = l.length + (l.map fun p => (lI p.words).length).sum := fun l => by
    induction l with
    | nil => rfl
    | cons a l ih =>
      simp only [List.map_cons, List.sum_cons, List.length_cons, ih, Function.comp]
      have : (lI (cpB a).words).length = (lI a.words).length := rfl
      omega
  rw [this]

theorem c_impl_SolveSystem_o (s : Sy) : FnO Try.prog 34 [eSy s] (· = solV s) := by
  intro h
  refine enter (by kernel_rfl) e34 (by kernel_rfl) rfl fun hok => ?_
  simp only [r34, initEnv_1]
  (try (simp (disch := first | omega | (simp <;> omega) | fail) only [push_cast, ↓reduceIte, Nat.reduceEqDiff, Nat.reduceAdd, Nat.reduceMul, Nat.reduceSub, Nat.reduceLT, Int.reduceToNat]))
  refine (c_impl_IsSystem s).call ?_
  have hnone : ¬ (okSy s = true ∧ refN s = 0) → ∀ g : H, ∃ t, Ow g [.tup [.agg [.int .i64 0, .nils], .bool false]] [t] (fun c => h.length ≤ c) ∧ t = solV s := fun h0 g => by
    have hv : solV s = .tup [.agg [.int .i64 0, .nils], .bool false] := by
      unfold solV solB solq
      rw [if_neg h0]
      have : (okSy s && decide (refN s = 0)) = false := by
        cases h1 : okSy s
        · rfl
        · have : ¬ refN s = 0 := fun h2 => h0 ⟨h1, h2⟩
          simp [this]
      rw [this]
      rfl
    rw [hv]
    exact ⟨_, (Ow.two (F := fun _ => False) (F' := fun _ => False) (Ow.aggOf (.atom rfl (.atom rfl .nil))) (.atom rfl .nil) (fun _ h => h.elim) (fun _ h => h.elim)).tupOf, rfl⟩
  cases hk : okSy s
  · (try (simp (disch := first | omega | (simp <;> omega) | fail) only [push_cast, ↓reduceIte, Nat.reduceEqDiff, Nat.reduceAdd, Nat.reduceMul, Nat.reduceSub, Nat.reduceLT, Int.reduceToNat]))
    exact hnone (by simp [hk]) _
  obtain ⟨m, ho⟩ := okE_n hk
  have hmm := ho.mm
  (try (simp (disch := first | omega | (simp <;> omega) | fail) only [push_cast, ↓reduceIte, Nat.reduceEqDiff, Nat.reduceAdd, Nat.reduceMul, Nat.reduceSub, Nat.reduceLT, Int.reduceToNat]))
  refine (c_impl_solve_o s m ho).go fun x t h1 hR hx1 how => ?_
  subst hR
  obtain ⟨y, rfl, how2⟩ := ow_tup2 how
  obtain ⟨b, rfl, how3⟩ := ow_bits how2
  have hl1 := hx1.len
  simp only [List.length_append, List.length_cons, List.length_nil] at hl1 how3
  have hb1 : H.cells h1 (h.length + 1) = some [.int .i64 0, .nils] := hx1.cells (by rw [cells_hk]; rfl)
  have hb1' := fun l => cells_app (l := l) hb1
  have hpm : (h.length ≤ h.length + 1) = True := by simp
  by_cases h0 : refN s = 0
  · have hd : decide (refN s = 0) = true := by simp [h0]
    have hv : solV s = .tup [eB ⟨nSy s, some (wordsN (solN s) m)⟩, .bool true] := by
      unfold solV solB solq
      rw [if_pos ⟨hk, h0⟩, hk, hd, ← hmm]
      rfl
    have hw : ∀ (l : H) cs, H.cells (wr (h1 ++ l) (h.length + 1) cs) (h.length + 1) = some cs := fun l cs => cells_wr2 (by simp; omega)
    rw [hd]
    (try (simp (disch := first | omega | (simp <;> omega) | fail) only [push_cast, ↓reduceIte, Nat.reduceEqDiff, Nat.reduceAdd, Nat.reduceMul, Nat.reduceSub, Nat.reduceLT, Int.reduceToNat, hb1', hpm, hw]))
    rw [hv]
    refine ⟨_, (Ow.two (F' := fun _ => False) (Ow.aggOf (how3.frame (h' := wr (h1 ++ _) (h.length + 1) _) fun c hc => ?_)) (.atom rfl .nil) (fun c hc => ?_) (fun _ h => h.elim)).tupOf, rfl⟩
    · have := hc.1
      have := hc.2
      unfold wr
      rw [List.getElem?_set_ne (by omega), List.getElem?_append_left (by omega)]
    · have := hc.1
      omega
  · have hd : decide (refN s = 0) = false := by simp [h0]
    rw [hd]
    (try (simp (disch := first | omega | (simp <;> omega) | fail) only [push_cast, ↓reduceIte, Nat.reduceEqDiff, Nat.reduceAdd, Nat.reduceMul, Nat.reduceSub, Nat.reduceLT, Int.reduceToNat, hb1', hpm]))
    have hw : ∀ (l : H) cs, H.cells (wr (h1 ++ l) (h.length + 1) cs) (h.length + 1) = some cs := fun l cs => cells_wr2 (by simp; omega)
    (try (simp (disch := first | omega | (simp <;> omega) | fail) only [push_cast, ↓reduceIte, Nat.reduceEqDiff, Nat.reduceAdd, Nat.reduceMul, Nat.reduceSub, Nat.reduceLT, Int.reduceToNat, hw]))
    exact hnone (fun h5 => h0 h5.2) _

theorem fits_cons {s : Sh} {ss : List Sh} {zs : List AV} (h : Fits (s :: ss) zs) : ∃ xs ys, zs = xs ++ ys ∧ Fit s xs ∧ Fits ss ys := by
  cases h with
  | cons h hr => exact ⟨_, _, rfl, h, hr⟩
theorem fits_nil {zs : List AV} (h : Fits [] zs) : zs = [] := by cases h; rfl
theorem fit_int {zs : List AV} (h : Fit (.int .i64) zs) : ∃ n : Int, zs = [.int .i64 n] ∧ -9223372036854775808 ≤ n ∧ n ≤ 9223372036854775807 := by
  cases h with
  | int h1 h2 => exact ⟨_, rfl, by simpa [IntKind.min, IntKind.signed, IntKind.bits] using h1, by simpa [IntKind.max, IntKind.signed, IntKind.bits] using h2⟩
theorem fit_str {zs : List AV} (h : Fit .str zs) : ∃ s : Str, zs = [.str s] ∧ s.length ≤ 9223372036854775807 := by
  cases h with
  | str h => exact ⟨_, rfl, h⟩
theorem fit_st {fs : List Sh} {zs : List AV} (h : Fit (.st fs) zs) : Fits fs zs := by
  cases h with
  | st h => exact h
theorem flatMap_eq {α β : Type} {f g : α → List β} : ∀ {l : List α}, (∀ a ∈ l, f a = g a) → l.flatMap f = l.flatMap g
  | [], _ => rfl
  | a :: l, h => by
    rw [List.flatMap_cons, List.flatMap_cons, h a (by simp), flatMap_eq fun b hb => h b (by simp [hb])]
theorem fit_strs {zs : List AV} (h : Fit (.sl .str 1) zs) : ∃ a : Option (List Str), zs = [eS a] := by
  cases h with
  | nil => exact ⟨none, rfl⟩
  | @sl _ _ n g hm hl h =>
    have hg : ∀ i, ∃ s : Str, i < n → g i = [.str s] := fun i => by
      by_cases hi : i < n
      · obtain ⟨s, hs, _⟩ := fit_str (h i hi)
        exact ⟨s, fun _ => hs⟩
      · exact ⟨[], fun h => absurd h hi⟩
    refine ⟨some ((List.range n).map fun i => Classical.choose (hg i)), ?_⟩
    simp only [eS, List.length_map, List.length_range, List.map_map]
    congr 2
    rw [← List.flatMap_singleton' ((List.range n).map _), List.flatMap_map]
    refine flatMap_eq fun i hi => ?_
    rw [Classical.choose_spec (hg i) (List.mem_range.1 hi)]
    rfl
theorem argsFit_cons {s : Sh} {ss : List Sh} {zs : List AV} (h : ArgsFit (s :: ss) zs) : ∃ xs ys, zs = argOf s xs :: ys ∧ Fit s xs ∧ ArgsFit ss ys := by
  cases h with
  | cons h hr => exact ⟨_, _, rfl, h, hr⟩
theorem argsFit_nil {zs : List AV} (h : ArgsFit [] zs) : zs = [] := by cases h; rfl

theorem fit_rows {α : Type} [Inhabited α] {s : Sh} {w : Nat} {f : α → List AV} (hf : ∀ xs, Fit s xs → ∃ a, xs = f a) {zs : List AV} (h : Fit (.sl s w) zs) : zs = [.nils] ∨ ∃ l : List α, zs = [.ro w (l.flatMap f) l.length] := by
  cases h with
  | nil => exact .inl rfl
  | @sl _ _ n g hm hl h =>
    have hg : ∀ i, ∃ a : α, i < n → g i = f a := fun i => by
      by_cases hi : i < n
      · obtain ⟨a, ha⟩ := hf _ (h i hi)
        exact ⟨a, fun _ => ha⟩
      · exact ⟨default, fun h => absurd h hi⟩
    refine .inr ⟨(List.range n).map fun i => Classical.choose (hg i), ?_⟩
    rw [List.length_map, List.length_range, List.flatMap_map]
    congr 2
    exact flatMap_eq fun i hi => Classical.choose_spec (hg i) (List.mem_range.1 hi)
theorem flatMap_one {α : Type} {f : α → AV} : ∀ {l : List α}, l.flatMap (fun a => [f a]) = l.map f
  | [] => rfl
  | a :: l => by rw [List.flatMap_cons, flatMap_one]; rfl
theorem fit_ints {zs : List AV} (h : Fit (.sl (.int .i64) 1) zs) : ∃ a : Option (List Int), zs = [eI a] := by
  rcases fit_rows (f := fun n : Int => [AV.int .i64 n]) (fun xs hx => by obtain ⟨n, hn, _⟩ := fit_int hx; exact ⟨n, hn⟩) h with rfl | ⟨l, rfl⟩
  · exact ⟨none, rfl⟩
  · exact ⟨some l, by rw [flatMap_one]; rfl⟩

def shBits2 : Sh := .st [.int .i64, .sl (.int .i64) 1]
theorem fit_cB {zs : List AV} (h : Fit shBits2 zs) : ∃ b, zs = cB b := by
  obtain ⟨x1, y1, rfl, h1, h⟩ := fits_cons (fit_st h)
  obtain ⟨x2, y2, rfl, h2, h⟩ := fits_cons h
  obtain rfl := fits_nil h
  obtain ⟨n, rfl, _⟩ := fit_int h1
  obtain ⟨a, rfl⟩ := fit_ints h2
  exact ⟨⟨n, a⟩, rfl⟩
theorem fit_bool {zs : List AV} (h : Fit .bool zs) : ∃ b : Bool, zs = [.bool b] := by
  cases h with
  | bool b => exact ⟨b, rfl⟩
theorem fit_bools {zs : List AV} (h : Fit (.sl .bool 1) zs) : ∃ a : Option (List Bool), zs = [eO a] := by
  rcases fit_rows (f := fun n : Bool => [AV.bool n]) (fun xs hx => by obtain ⟨n, hn⟩ := fit_bool hx; exact ⟨n, hn⟩) h with rfl | ⟨l, rfl⟩
  · exact ⟨none, rfl⟩
  · exact ⟨some l, by rw [flatMap_one]; rfl⟩
theorem fit_bitss {zs : List AV} (h : Fit (.sl shBits2 2) zs) : ∃ a : Option (List Bt), zs = [eBS a] := by
  rcases fit_rows (f := cB) (fun xs hx => fit_cB hx) h with rfl | ⟨l, rfl⟩
  · exact ⟨none, rfl⟩
  · exact ⟨some l, rfl⟩
def shSys : Sh := .st [.int .i64, .sl shBits2 2, .sl .bool 1]
theorem fit_sys {zs : List AV} (h : Fit shSys zs) : ∃ s, argOf shSys zs = eSy s := by
  obtain ⟨x1, y1, rfl, h1, h⟩ := fits_cons (fit_st h)
  obtain ⟨x2, y2, rfl, h2, h⟩ := fits_cons h
  obtain ⟨x3, y3, rfl, h3, h⟩ := fits_cons h
  obtain rfl := fits_nil h
  obtain ⟨n, rfl, _⟩ := fit_int h1
  obtain ⟨a, rfl⟩ := fit_bitss h2
  obtain ⟨b, rfl⟩ := fit_bools h3
  exact ⟨⟨n, a, b⟩, rfl⟩
theorem sameSy_cp {s : Sy} : (decide ((cpSy s).size = (cpSy s).size) && (sameBS (lB (cpSy s).rows) (lB (cpSy s).rows) && decide (lO (cpSy s).right = lO (cpSy s).right))) = true := by
  have h1 : sameBS (lB (cpSy s).rows) (lB (cpSy s).rows) = true := sameBS_cp _
  rw [h1]
  simp

def sh_FnExactSolveSystem : List Sh := [shSys]
theorem law_FnExactSolveSystem (ys : List AV) (hy : ArgsFit sh_FnExactSolveSystem ys) : Call Try.prog 8 ys [] Nowhere (fun x _ => x = .bool true) := by
  obtain ⟨x1, y1, rfl, h1, hy⟩ := argsFit_cons hy
  obtain rfl := argsFit_nil hy
  obtain ⟨s, he⟩ := fit_sys h1
  rw [he]
  refine (?_ : ∀ h, Call Try.prog 8 [eSy s] h Nowhere (fun x _ => x = .bool true)) []
  intro h
  refine enter (by kernel_rfl) e8 (by kernel_rfl) rfl fun hok => ?_
  simp only [r8, initEnv_1]
  (try (simp (disch := first | omega | (simp <;> omega) | fail) only [push_cast, ↓reduceIte, Nat.reduceEqDiff, Nat.reduceAdd, Nat.reduceMul, Nat.reduceSub, Nat.reduceLT, Int.reduceToNat]))
  refine (c_laws_szSystem s 1048576 (by omega) (by omega)).call ?_
  (try (simp (disch := first | omega | (simp <;> omega) | fail) only [push_cast, ↓reduceIte, Nat.reduceEqDiff, Nat.reduceAdd, Nat.reduceMul, Nat.reduceSub, Nat.reduceLT, Int.reduceToNat]))
  first | refine goC_split (fun hd => ?_) (fun hd => ?_) | refine cnd_split (fun hd => ?_) (fun hd => ?_)
  · (try (simp only [decide_eq_true_eq, decide_eq_false_iff_not, Bool.not_eq_true', Bool.not_eq_false', Bool.and_eq_true, Bool.or_eq_true, Int.not_lt, Int.not_le] at hd)); (try (simp (disch := first | omega | (simp <;> omega) | fail) only [push_cast, ↓reduceIte, Nat.reduceEqDiff, Nat.reduceAdd, Nat.reduceMul, Nat.reduceSub, Nat.reduceLT, Int.reduceToNat]))
  (try (simp only [decide_eq_true_eq, decide_eq_false_iff_not, Bool.not_eq_true', Bool.not_eq_false', Bool.and_eq_true, Bool.or_eq_true, Int.not_lt, Int.not_le] at hd)); (try (simp (disch := first | omega | (simp <;> omega) | fail) only [push_cast, ↓reduceIte, Nat.reduceEqDiff, Nat.reduceAdd, Nat.reduceMul, Nat.reduceSub, Nat.reduceLT, Int.reduceToNat]))
  have hw := szv_ok hd
  have hw2 : wSy s ≤ 1048576 := by omega
  have hoff := offB_cp (s := s)
  refine (c_laws_toSystem s hw2).call ?_
  (try (simp (disch := first | omega | (simp <;> omega) | fail) only [push_cast, ↓reduceIte, Nat.reduceEqDiff, Nat.reduceAdd, Nat.reduceMul, Nat.reduceSub, Nat.reduceLT, Int.reduceToNat]))
  refine (c_spec_SolveSystem (cpSy s)).call ?_
  have hrl := solB_len (s := cpSy s)
  have himpl := c_impl_SolveSystem_o (cpSy s)
  unfold solV at himpl ⊢
  generalize solB (cpSy s) = a at *
  generalize solq (cpSy s) = q at *
  have heqB : Fn Try.prog 35 [eB a, eB a] (· = .bool true) := by
    have := c_laws_eqBits a a
    simpa using this
  have hea : eB a = .agg [.int .i64 a.size, eI a.words] := rfl
  (try (simp (disch := first | omega | (simp <;> omega) | fail) only [push_cast, ↓reduceIte, Nat.reduceEqDiff, Nat.reduceAdd, Nat.reduceMul, Nat.reduceSub, Nat.reduceLT, Int.reduceToNat]))
  refine (c_laws_toSystem_o s hw2).go fun x t h1 hR hx1 how => ?_
  subst hR
  have hb1 : H.cells h1 h.length = some [.int .i64 s.size, eBS s.rows, eO s.right] := hx1.cells (by rw [cells_h0]; rfl)
  have hc1 : H.cells h1 (h.length + 1) = some [.int .i64 a.size, eI a.words] := hx1.cells (by rw [cells_hk]; rfl)
  obtain ⟨b1, b2, rfl⟩ := ow_sys how
  have hl1 := hx1.len
  simp only [List.length_append, List.length_cons, List.length_nil] at hl1 how
  (try (simp (disch := first | omega | (simp <;> omega) | fail) only [push_cast, ↓reduceIte, Nat.reduceEqDiff, Nat.reduceAdd, Nat.reduceMul, Nat.reduceSub, Nat.reduceLT, Int.reduceToNat, hb1]))
  refine himpl.goL (.cons (Ext.refl.app.ow how).vw0 .nil) fun y t h2 hR hx2 how2 => ?_
  subst hR
  obtain ⟨g0, rfl, how3⟩ := ow_tup2 how2
  clear how2
  obtain ⟨w, F, rfl, f1, f2, f3, f4, f5⟩ := ow_bt how3
  clear f1 f2 f5 F
  have hl2 := hx2.len
  simp only [List.length_append, List.length_cons, List.length_nil] at hl2 how3
  have hb2 : ∀ l, H.cells (h2 ++ l) h.length = some [.int .i64 s.size, eBS s.rows, eO s.right] := fun l => cells_app (hx2.cells (cells_app hb1))
  have hc2 : ∀ l, H.cells (h2 ++ l) (h.length + 1) = some [.int .i64 a.size, eI a.words] := fun l => cells_app (hx2.cells (cells_app hc1))
  have hx0 : ∀ l, H.cells (h2 ++ l) h1.length = some [.int .i64 s.size, .sl b1 0 2 ((lB s.rows).map cpB).length ((lB s.rows).map cpB).length, .sl b2 0 1 (lO s.right).length (lO s.right).length] := fun l => cells_app (hx2.cells (by rw [cells_h0]; rfl))
  have how1 : Ow (h2 ++ [some (.cells [.int .i64 a.size, w])]) [.agg [.int .i64 s.size, .sl b1 0 2 ((lB s.rows).map cpB).length ((lB s.rows).map cpB).length, .sl b2 0 1 (lO s.right).length (lO s.right).length]] [eSy (cpSy s)] (Seg (h.length + 2) h1) := (hx2.app (l := [some (.cells [.int .i64 a.size, w])])).ow2 (Ext.refl.app.ow how) (by simp)
  have how4 : Ow (h2 ++ [some (.cells [.int .i64 a.size, w])]) [.agg [.int .i64 a.size, w]] [eB a] (Seg (h1.length + 1) h2) := Ext.refl.app.ow how3
  clear how hx1 how3
  (try (simp (disch := first | omega | (simp <;> omega) | fail) only [push_cast, ↓reduceIte, Nat.reduceEqDiff, Nat.reduceAdd, Nat.reduceMul, Nat.reduceSub, Nat.reduceLT, Int.reduceToNat, f3, f4, hb2, hc2]))
  refine heqB.lendL (.cons how4.vw0 (.free free_eB .nil)) own_bool ?_
  (try (simp (disch := first | omega | (simp <;> omega) | fail) only [push_cast, ↓reduceIte, Nat.reduceEqDiff, Nat.reduceAdd, Nat.reduceMul, Nat.reduceSub, Nat.reduceLT, Int.reduceToNat, hb2, hc2, hx0]))
  refine (c_laws_toSystem s hw2).call ?_
  (try (simp (disch := first | omega | (simp <;> omega) | fail) only [push_cast, ↓reduceIte, Nat.reduceEqDiff, Nat.reduceAdd, Nat.reduceMul, Nat.reduceSub, Nat.reduceLT, Int.reduceToNat, hb2, hc2, hx0]))
  refine (c_laws_eqSystem (cpSy s) (cpSy s)).lendL (.cons how1.vw0 (.free free_eSy .nil)) own_bool ?_
  rw [sameSy_cp]
  (try (simp (disch := first | omega | (simp <;> omega) | fail) only [push_cast, ↓reduceIte, Nat.reduceEqDiff, Nat.reduceAdd, Nat.reduceMul, Nat.reduceSub, Nat.reduceLT, Int.reduceToNat, hb2, hc2, hx0]))
  refine (c_laws_markSystem _ (cpSy s) _ 1 _ how1 (fun c hc => by have := hc.2; simp; omega) (by omega) (by omega)).mono (fun x h3 hx => ?_) (fun c _ hc => Or.inr (by have := hc.1; omega))
  obtain ⟨rfl, hk1⟩ := hx
  have hl3 := hk1.1
  simp only [List.length_append, List.length_cons, List.length_nil] at hl3
  have hb3 : H.cells h3 h.length = some [.int .i64 s.size, eBS s.rows, eO s.right] := cells_keep_ (hk1.2 _ (by simp; omega) fun hc => by have := hc.1; omega) (hb2 _)
  have hc3 : H.cells h3 (h.length + 1) = some [.int .i64 a.size, eI a.words] := cells_keep_ (hk1.2 _ (by simp; omega) fun hc => by have := hc.1; omega) (hc2 _)
  have hg3 : H.cells h3 h2.length = some [.int .i64 a.size, w] := cells_keep_ (hk1.2 _ (by simp) fun hc => by have := hc.2; omega) (by rw [cells_h0]; rfl)
  have how5 := hk1.ow how4 fun c hc => ⟨by have := hc.2; simp; omega, fun hd => by have := hc.1; have := hd.2; omega⟩
  (try (simp (disch := first | omega | (simp <;> omega) | fail) only [push_cast, ↓reduceIte, Nat.reduceEqDiff, Nat.reduceAdd, Nat.reduceMul, Nat.reduceSub, Nat.reduceLT, Int.reduceToNat, hb3, hc3, hg3]))
  refine heqB.lendL (.cons how5.vw0 (.free free_eB .nil)) own_bool ?_
  (try (simp (disch := first | omega | (simp <;> omega) | fail) only [push_cast, ↓reduceIte, Nat.reduceEqDiff, Nat.reduceAdd, Nat.reduceMul, Nat.reduceSub, Nat.reduceLT, Int.reduceToNat, hb3, hc3, hg3]))
  refine (c_laws_markBits _ a _ 1 _ how5 (fun c hc => by have := hc.2; omega) (by omega) (by omega)).mono (fun x h4 hx => ?_) (fun c _ hc => Or.inr (by have := hc.1; omega))
  obtain ⟨rfl, hk2, how6⟩ := hx
  have hl4 := hk2.1
  have hb4 : ∀ l, H.cells (h4 ++ l) h.length = some [.int .i64 s.size, eBS s.rows, eO s.right] := fun l => cells_app (cells_keep_ (hk2.2 _ (by omega) fun hc => by have := hc.1; omega) hb3)
  have hc4 : ∀ l, H.cells (h4 ++ l) (h.length + 1) = some [.int .i64 a.size, eI a.words] := fun l => cells_app (cells_keep_ (hk2.2 _ (by omega) fun hc => by have := hc.1; omega) hc3)
  have hg4 : ∀ l, H.cells (h4 ++ l) h2.length = some [.int .i64 a.size, w] := fun l => cells_app (cells_keep_ (hk2.2 _ (by omega) fun hc => by have := hc.2; omega) hg3)
  have hg40 := hg4 []
  have hb40 := hb4 []
  have hc40 := hc4 []
  rw [List.append_nil] at hg40 hb40 hc40
  have how7 : ∀ l, Ow (h4 ++ l) [.agg [.int .i64 a.size, w]] [eB (mkBt 1 a)] (Seg (h1.length + 1) h2) := fun l => how6.frame fun c hc => List.getElem?_append_left (by have := hc.2; omega)
  have hheld := c_laws_heldBits a 1 (by omega) (by omega)
  (try (simp (disch := first | omega | (simp <;> omega) | fail) only [push_cast, ↓reduceIte, Nat.reduceEqDiff, Nat.reduceAdd, Nat.reduceMul, Nat.reduceSub, Nat.reduceLT, Int.reduceToNat, hg40]))
  refine hheld.lendL (.cons how6.vw0 (.free free_int .nil)) own_int ?_
  (try (simp (disch := first | omega | (simp <;> omega) | fail) only [push_cast, ↓reduceIte, Nat.reduceEqDiff, Nat.reduceAdd, Nat.reduceMul, Nat.reduceSub, Nat.reduceLT, Int.reduceToNat, hb40]))
  refine (c_laws_toSystem s hw2).call ?_
  (try (simp (disch := first | omega | (simp <;> omega) | fail) only [push_cast, ↓reduceIte, Nat.reduceEqDiff, Nat.reduceAdd, Nat.reduceMul, Nat.reduceSub, Nat.reduceLT, Int.reduceToNat]))
  refine himpl.fn.call ?_
  (try (simp (disch := first | omega | (simp <;> omega) | fail) only [push_cast, ↓reduceIte, Nat.reduceEqDiff, Nat.reduceAdd, Nat.reduceMul, Nat.reduceSub, Nat.reduceLT, Int.reduceToNat, hc4]))
  refine heqB.call ?_
  (try (simp (disch := first | omega | (simp <;> omega) | fail) only [push_cast, ↓reduceIte, Nat.reduceEqDiff, Nat.reduceAdd, Nat.reduceMul, Nat.reduceSub, Nat.reduceLT, Int.reduceToNat, hg4]))
  refine hheld.lendL (.cons (how7 _).vw0 (.free free_int .nil)) own_int ?_
  (try (simp (disch := first | omega | (simp <;> omega) | fail) only [push_cast, ↓reduceIte, Nat.reduceEqDiff, Nat.reduceAdd, Nat.reduceMul, Nat.reduceSub, Nat.reduceLT, Int.reduceToNat]))

end Go.Proofs.Ytgkdnpigbpkehaa.M
