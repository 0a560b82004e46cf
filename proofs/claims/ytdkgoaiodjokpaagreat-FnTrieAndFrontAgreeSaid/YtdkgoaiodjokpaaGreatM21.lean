/-
  Solutions of rows over two elements, as numbers: what a row meets, filling from the last column, and that both ways give one vector.
-/
import Derived.Test.YtdkgoaiodjokpaaGreatM20
namespace Go.Proofs.YtdkgoaiodjokpaaGreat.M
set_option linter.unusedVariables false
open Go Go.RowKit
/-- Is the number of bits that are on in both odd? -/
def oddN (X x : Nat) : Nat → Bool
  | 0 => false
  | n + 1 => oddN X x n != (X.testBit n && x.testBit n)
theorem oddN_congr {X Y x y : Nat} : ∀ {n : Nat}, (∀ j, j < n → (X.testBit j && x.testBit j) = (Y.testBit j && y.testBit j)) → oddN X x n = oddN Y y n
  | 0, _ => rfl
  | n + 1, h => by rw [oddN, oddN, oddN_congr fun j hj => h j (by omega), h n (by omega)]
theorem oddN_xor {X Y x : Nat} : ∀ {n : Nat}, oddN (X ^^^ Y) x n = (oddN X x n != oddN Y x n)
  | 0 => rfl
  | n + 1 => by
    rw [oddN, oddN, oddN, oddN_xor, Nat.testBit_xor]
    cases oddN X x n <;> cases oddN Y x n <;> cases X.testBit n <;> cases Y.testBit n <;> cases x.testBit n <;> rfl
theorem oddN_xor2 {X x y : Nat} : ∀ {n : Nat}, oddN X (x ^^^ y) n = (oddN X x n != oddN X y n)
  | 0 => rfl
  | n + 1 => by
    rw [oddN, oddN, oddN, oddN_xor2, Nat.testBit_xor]
    cases oddN X x n <;> cases oddN X y n <;> cases X.testBit n <;> cases x.testBit n <;> cases y.testBit n <;> rfl
theorem oddN_none {X x : Nat} : ∀ {n : Nat}, (∀ j, j < n → (X.testBit j && x.testBit j) = false) → oddN X x n = false
  | 0, _ => rfl
  | n + 1, h => by rw [oddN, oddN_none fun j hj => h j (by omega), h n (by omega)]; rfl
theorem oddN_one {X x p : Nat} : ∀ {n : Nat}, p < n → (∀ j, j < n → j ≠ p → (X.testBit j && x.testBit j) = false) → oddN X x n = (X.testBit p && x.testBit p)
  | 0, hp, _ => by omega
  | n + 1, hp, h => by
    rw [oddN]
    by_cases hpn : p = n
    · subst hpn
      rw [oddN_none fun j hj => h j (by omega) (by omega)]
      cases (X.testBit p && x.testBit p) <;> rfl
    · rw [oddN_one (by omega) fun j hj hne => h j (by omega) hne, h n (by omega) (Ne.symm hpn)]
      cases (X.testBit p && x.testBit p) <;> rfl
/-- A sum of rows that a vector satisfies. -/
def rgt (q : Bool) (n X : Nat) : Bool := q && X.testBit n
theorem rgt_xor {q : Bool} {n X Y : Nat} : rgt q n (X ^^^ Y) = (rgt q n X != rgt q n Y) := by
  unfold rgt
  rw [Nat.testBit_xor]
  cases q <;> cases X.testBit n <;> cases Y.testBit n <;> rfl
theorem Sp.sat {n x : Nat} {q : Bool} {L : List Nat} (h : ∀ l ∈ L, oddN l x n = rgt q n l) {v : Nat} (hv : Sp L v) : oddN v x n = rgt q n v := by
  induction hv with
  | zero =>
    rw [oddN_none fun j _ => by simp]
    simp [rgt]
  | add _ hx ih => rw [oddN_xor, rgt_xor, ih, h _ hx]
/-! ### filling from the last column -/
def fillStep (n : Nat) (q : Bool) (i : Nat) (x l : Nat) : Nat := if lead n l = i ∧ oddN l x n ≠ rgt q n l then x ||| 2 ^ i else x
def fillColS (n : Nat) (q : Bool) (L : List Nat) (i : Nat) (x : Nat) : Nat := L.foldl (fillStep n q i) x
def fillS (n : Nat) (q : Bool) (L : List Nat) (x : Nat) : Nat → Nat
  | 0 => x
  | j + 1 => fillColS n q L (n - 1 - j) (fillS n q L x j)
theorem or_bit {x i j : Nat} : (x ||| 2 ^ i).testBit j = (x.testBit j || decide (i = j)) := by
  rw [Nat.testBit_or, Nat.testBit_two_pow]
theorem fillColS_other {n : Nat} {q : Bool} {i j : Nat} (hij : i ≠ j) : ∀ {L : List Nat} {x : Nat}, (fillColS n q L i x).testBit j = x.testBit j
  | [], x => rfl
  | l :: L, x => by
    have ih := fillColS_other (n := n) (q := q) hij (L := L) (x := fillStep n q i x l)
    unfold fillColS at ih ⊢
    rw [List.foldl_cons, ih]
    unfold fillStep
    split
    · rw [or_bit]
      simp [hij]
    · rfl
theorem fillColS_no {n : Nat} {q : Bool} {i : Nat} : ∀ {L : List Nat} {x : Nat}, i ∉ L.map (lead n) → fillColS n q L i x = x
  | [], x, _ => rfl
  | l :: L, x, h => by
    simp at h
    have ih := fillColS_no (n := n) (q := q) (i := i) (L := L) (x := x) (by simpa using h.2)
    unfold fillColS at ih ⊢
    rw [List.foldl_cons]
    unfold fillStep
    rw [if_neg (fun hh => h.1 hh.1.symm)]
    exact ih
theorem fillColS_sat {n : Nat} {q : Bool} {l : Nat} : ∀ {L : List Nat} {x : Nat}, (L.map (lead n)).Nodup → l ∈ L → lead n l < n → x.testBit (lead n l) = false → oddN l (fillColS n q L (lead n l) x) n = rgt q n l
  | [], x, _, h, _, _ => by cases h
  | a :: L, x, hd, h, hl, hx => by
    rw [List.map_cons, List.nodup_cons] at hd
    by_cases ha : lead n a = lead n l
    · have hn := fillColS_no (n := n) (q := q) (i := lead n l) (L := L) (x := fillStep n q (lead n l) x a) (by rw [← ha]; exact hd.1)
      have hal : a = l := by
        rcases List.mem_cons.1 h with h | h
        · exact h.symm
        · exact absurd (show lead n l ∈ L.map (lead n) from List.mem_map_of_mem h) (by rw [← ha]; exact hd.1)
      subst hal
      unfold fillColS at hn ⊢
      rw [List.foldl_cons, hn]
      unfold fillStep
      by_cases ho : oddN a x n = rgt q n a
      · rw [if_neg (fun hh => hh.2 ho), ho]
      · rw [if_pos ⟨rfl, ho⟩]
        have e1 : x ||| 2 ^ lead n a = x ^^^ 2 ^ lead n a := by
          refine Nat.eq_of_testBit_eq fun j => ?_
          rw [or_bit, Nat.testBit_xor, Nat.testBit_two_pow]
          by_cases hj : lead n a = j
          · subst hj
            simp [hx]
          · simp [hj]
        have e2 : oddN a (2 ^ lead n a) n = true := by
          rw [oddN_one hl fun j hj hne => by rw [Nat.testBit_two_pow]; simp [Ne.symm hne], lead_bit hl, Nat.testBit_two_pow]
          simp
        rw [e1, oddN_xor2, e2]
        revert ho
        cases oddN a x n <;> cases rgt q n a <;> simp
    · have hm : l ∈ L := by
        rcases List.mem_cons.1 h with h | h
        · exact absurd (by rw [h]) ha
        · exact h
      have ih := fillColS_sat (q := q) (L := L) (x := x) hd.2 hm hl hx
      unfold fillColS at ih ⊢
      rw [List.foldl_cons]
      unfold fillStep
      rw [if_neg (fun hh => ha hh.1)]
      exact ih
theorem fillS_keep {n : Nat} {q : Bool} {L : List Nat} {x c : Nat} : ∀ {j : Nat}, j ≤ n → (c < n - j ∨ n ≤ c) → (fillS n q L x j).testBit c = x.testBit c
  | 0, _, _ => rfl
  | j + 1, hj, h => by
    rw [fillS, fillColS_other (by omega)]
    exact fillS_keep (by omega) (by omega)
theorem fillS_free {n : Nat} {q : Bool} {L : List Nat} {x c : Nat} (hc : c ∉ L.map (lead n)) : ∀ {j : Nat}, (fillS n q L x j).testBit c = x.testBit c
  | 0 => rfl
  | j + 1 => by
    rw [fillS]
    by_cases h : n - 1 - j = c
    · rw [h, fillColS_no hc]
      exact fillS_free hc
    · rw [fillColS_other h]
      exact fillS_free hc
theorem fillS_sat {n : Nat} {q : Bool} {L : List Nat} {x : Nat} (hE : Ech n L) (hx : ∀ l ∈ L, x.testBit (lead n l) = false) : ∀ {j : Nat}, j ≤ n → ∀ l ∈ L, n - j ≤ lead n l → oddN l (fillS n q L x j) n = rgt q n l
  | 0, _, l, hl, h => absurd (hE.lt l hl) (by omega)
  | j + 1, hj, l, hl, h => by
    have hlt := hE.lt l hl
    rw [fillS]
    by_cases hc : lead n l = n - 1 - j
    · rw [← hc]
      refine fillColS_sat hE.nd hl hlt ?_
      rw [fillS_keep (by omega) (by omega)]
      exact hx l hl
    · have ih := fillS_sat (q := q) hE hx (j := j) (by omega) l hl (by omega)
      rw [← ih]
      refine oddN_congr fun k hk => ?_
      by_cases hkl : k < lead n l
      · rw [lead_low hkl]
        simp
      · rw [fillColS_other (by omega)]
theorem rref_other {n : Nat} : ∀ {M : List Nat}, Rref n M → ∀ {e f : Nat}, e ∈ M → f ∈ M → e ≠ f → e.testBit (lead n f) = false
  | [], _, e, f, he, _, _ => by cases he
  | a :: M, hr, e, f, he, hf, hne => by
    have hr2 := List.pairwise_cons.1 hr
    rcases List.mem_cons.1 he with he2 | he2
    · rcases List.mem_cons.1 hf with hf2 | hf2
      · exact absurd (he2.trans hf2.symm) hne
      · rw [he2]
        exact (hr2.1 f hf2).1
    · rcases List.mem_cons.1 hf with hf2 | hf2
      · rw [hf2]
        exact (hr2.1 e he2).2
      · exact rref_other hr2.2 he2 hf2 hne
/-! ### the vector that is told by the pivots -/
structure PivV (n : Nat) (q : Bool) (M : List Nat) (x y : Nat) : Prop where
  free : ∀ c, c < n → c ∉ M.map (lead n) → y.testBit c = x.testBit c
  sat : ∀ e ∈ M, oddN e y n = rgt q n e
theorem piv_eq {n : Nat} {q : Bool} {p r : List Nat × Nat} (hs : Sim n p r) {x y : Nat} (hx : ∀ l ∈ p.1, x.testBit (lead n l) = false) (hy : PivV n q r.1 x y) : ∀ c, c < n → y.testBit c = (fillS n q p.1 x n).testBit c := by
  have hsat : ∀ l ∈ p.1, oddN l (fillS n q p.1 x n) n = rgt q n l := fun l hl => fillS_sat hs.es hx (Nat.le_refl _) l hl (by omega)
  have hd : ∀ e ∈ r.1, oddN e (y ^^^ fillS n q p.1 x n) n = false := fun e he => by
    rw [oddN_xor2, hy.sat e he, Sp.sat hsat ((hs.sp e).2 (.mem he))]
    cases rgt q n e <;> rfl
  have hfree : ∀ c, c < n → c ∉ r.1.map (lead n) → (y ^^^ fillS n q p.1 x n).testBit c = false := fun c hc hn => by
    rw [Nat.testBit_xor, hy.free c hc hn, fillS_free fun hh => hn ((hs.leads c).1 hh)]
    simp
  have hpiv : ∀ e ∈ r.1, (y ^^^ fillS n q p.1 x n).testBit (lead n e) = false := fun e he => by
    have hlt := hs.ei.lt e he
    have h1 := hd e he
    rw [oddN_one hlt, lead_bit hlt] at h1
    · simpa using h1
    · intro j hj hne
      by_cases hm : j ∈ r.1.map (lead n)
      · obtain ⟨f, hf, rfl⟩ := List.mem_map.1 hm
        have : e.testBit (lead n f) = false := by
          exact rref_other hs.rr he hf fun h => hne (by rw [h])
        rw [this]
        rfl
      · rw [hfree j hj hm]
        simp
  intro c hc
  have : (y ^^^ fillS n q p.1 x n).testBit c = false := by
    by_cases hm : c ∈ r.1.map (lead n)
    · obtain ⟨e, he, rfl⟩ := List.mem_map.1 hm
      exact hpiv e he
    · exact hfree c hc hm
  rw [Nat.testBit_xor] at this
  revert this
  cases y.testBit c <;> cases (fillS n q p.1 x n).testBit c <;> simp
/-- A bit put on or off. -/
def setB (y i : Nat) (on : Bool) : Nat := (y ^^^ (y &&& 2 ^ i)) ||| (if on then 2 ^ i else 0)
theorem setB_bit {y i j : Nat} {on : Bool} : (setB y i on).testBit j = if j = i then on else y.testBit j := by
  unfold setB
  rw [Nat.testBit_or, Nat.testBit_xor, Nat.testBit_and, Nat.testBit_two_pow]
  by_cases h : j = i
  · subst h
    cases on <;> cases y.testBit j <;> simp
  · rw [if_neg h]
    cases on
    · cases y.testBit j <;> simp [Ne.symm h]
    · cases y.testBit j <;> simp [Ne.symm h]
/-- The pivots told one by one. -/
def setP (n : Nat) (g : Nat → Bool) (M : List Nat) (y : Nat) : Nat := M.foldl (fun y e => setB y (lead n e) (g e)) y
theorem setP_free {n : Nat} {g : Nat → Bool} {c : Nat} : ∀ {M : List Nat} {y : Nat}, c ∉ M.map (lead n) → (setP n g M y).testBit c = y.testBit c
  | [], y, _ => rfl
  | e :: M, y, h => by
    simp at h
    have ih := setP_free (n := n) (g := g) (c := c) (M := M) (y := setB y (lead n e) (g e)) (by simpa using h.2)
    unfold setP at ih ⊢
    rw [List.foldl_cons, ih, setB_bit, if_neg h.1]
theorem setP_piv {n : Nat} {g : Nat → Bool} {e : Nat} : ∀ {M : List Nat} {y : Nat}, (M.map (lead n)).Nodup → e ∈ M → (setP n g M y).testBit (lead n e) = g e
  | [], y, _, h => by cases h
  | a :: M, y, hd, h => by
    rw [List.map_cons, List.nodup_cons] at hd
    by_cases ha : a = e
    · subst ha
      have := setP_free (n := n) (g := g) (M := M) (y := setB y (lead n a) (g a)) hd.1
      unfold setP at this ⊢
      rw [List.foldl_cons, this, setB_bit, if_pos rfl]
    · have hm : e ∈ M := by
        rcases List.mem_cons.1 h with h | h
        · exact absurd h.symm ha
        · exact h
      have ih := setP_piv (g := g) (M := M) (y := setB y (lead n a) (g a)) hd.2 hm
      unfold setP at ih ⊢
      rw [List.foldl_cons]
      exact ih
/-- The right sides at the pivots. -/
theorem pivV_solve {n : Nat} {M M' : List Nat} (hE : Ech n M) (hr : Rref n M) (hp : M'.Perm M) : PivV n true M 0 (setP n (fun e => e.testBit n) M' 0) := by
  have hnd : (M'.map (lead n)).Nodup := (hp.map (lead n)).nodup_iff.2 hE.nd
  have hmem : ∀ c, c ∈ M'.map (lead n) ↔ c ∈ M.map (lead n) := fun c => (hp.map (lead n)).mem_iff
  refine ⟨fun c _ hc => setP_free fun hh => hc ((hmem c).1 hh), fun e he => ?_⟩
  have hlt := hE.lt e he
  rw [oddN_one hlt, lead_bit hlt, setP_piv hnd (hp.mem_iff.2 he)]
  · simp [rgt]
  · intro j hj hne
    by_cases hm : j ∈ M.map (lead n)
    · obtain ⟨f, hf, rfl⟩ := List.mem_map.1 hm
      rw [rref_other hr he hf fun h => hne (by rw [h])]
      rfl
    · rw [setP_free fun hh => hm ((hmem j).1 hh)]
      simp
/-- One free column on. -/
theorem pivV_null {n c : Nat} {M M' : List Nat} (hE : Ech n M) (hr : Rref n M) (hp : M'.Perm M) (hc : c < n) (hcf : c ∉ M.map (lead n)) : PivV n false M (2 ^ c) (setP n (fun e => e.testBit c) M' (2 ^ c)) := by
  have hnd : (M'.map (lead n)).Nodup := (hp.map (lead n)).nodup_iff.2 hE.nd
  have hmem : ∀ c, c ∈ M'.map (lead n) ↔ c ∈ M.map (lead n) := fun c => (hp.map (lead n)).mem_iff
  refine ⟨fun k _ hk => setP_free fun hh => hk ((hmem k).1 hh), fun e he => ?_⟩
  have hlt := hE.lt e he
  have hx : setP n (fun e => e.testBit c) M' (2 ^ c) = (setP n (fun e => e.testBit c) M' (2 ^ c) ^^^ 2 ^ c) ^^^ 2 ^ c := by
    rw [Nat.xor_assoc, Nat.xor_self, Nat.xor_zero]
  have hne : lead n e ≠ c := fun h => hcf (by rw [← h]; exact List.mem_map_of_mem he)
  rw [hx, oddN_xor2]
  have h1 : oddN e (2 ^ c) n = e.testBit c := by
    rw [oddN_one hc fun j hj hne => by rw [Nat.testBit_two_pow]; simp [Ne.symm hne], Nat.testBit_two_pow]
    simp
  have h2 : oddN e (setP n (fun e => e.testBit c) M' (2 ^ c) ^^^ 2 ^ c) n = e.testBit c := by
    rw [oddN_one hlt, lead_bit hlt, Nat.testBit_xor, setP_piv hnd (hp.mem_iff.2 he), Nat.testBit_two_pow]
    · simp [Ne.symm hne]
    · intro j hj hjne
      by_cases hm : j ∈ M.map (lead n)
      · obtain ⟨f, hf, rfl⟩ := List.mem_map.1 hm
        rw [rref_other hr he hf fun h => hjne (by rw [h])]
        rfl
      · rw [Nat.testBit_xor, setP_free fun hh => hm ((hmem j).1 hh)]
        simp
  rw [h1, h2]
  cases e.testBit c <;> simp [rgt]
theorem ofInt_nat16 (x : Nat) : BitVec.ofInt 64 (x : Int) = BitVec.ofNat 64 x := ofInt_nat x
theorem bitsI_andNot {x y : Nat} (hx : x < 9223372036854775808) (hy : y < 9223372036854775808) : bitsI .andNot .i64 (x : Int) (y : Int) = ((x ^^^ (x &&& y) : Nat) : Int) := by
  have h0 : x &&& y ≤ x := Nat.and_le_left
  have h1 : x ^^^ (x &&& y) < 2 ^ 63 := Nat.xor_lt_two_pow (by omega) (by omega)
  show IntKind.i64.wrap ((BitVec.ofInt 64 (x : Int) &&& ~~~ BitVec.ofInt 64 (y : Int)).toNat : Int) = _
  have h2 : (BitVec.ofNat 64 x &&& ~~~ BitVec.ofNat 64 y) = BitVec.ofNat 64 (x ^^^ (x &&& y)) := by
    apply BitVec.eq_of_getLsbD_eq
    intro i hi
    simp only [BitVec.getLsbD_and, BitVec.getLsbD_not, BitVec.getLsbD_ofNat, Nat.testBit_xor, Nat.testBit_and, hi, decide_true, Bool.true_and]
    cases x.testBit i <;> cases y.testBit i <;> rfl
  rw [ofInt_nat, ofInt_nat, h2, BitVec.toNat_ofNat, Nat.mod_eq_of_lt (by omega)]
  exact i64_nat (by omega)
theorem wordN_clr {B i k : Nat} : wordN (B ^^^ (B &&& 2 ^ i)) k = if k = i / 16 then wordN B k ^^^ (wordN B k &&& 2 ^ (i % 16)) else wordN B k := by
  have h16 : (65536 : Nat) = 2 ^ 16 := rfl
  apply Nat.eq_of_testBit_eq
  intro j
  by_cases hk : k = i / 16
  · rw [if_pos hk]
    unfold wordN
    rw [h16]
    simp only [Nat.testBit_mod_two_pow, Nat.testBit_shiftRight, Nat.testBit_xor, Nat.testBit_and, Nat.testBit_two_pow]
    by_cases hj : j < 16
    · have : decide (i = 16 * k + j) = decide (i % 16 = j) := by
        rw [decide_eq_decide]
        omega
      simp only [hj, decide_true, Bool.true_and, this]
    · simp [hj]
  · rw [if_neg hk]
    unfold wordN
    rw [h16]
    simp only [Nat.testBit_mod_two_pow, Nat.testBit_shiftRight, Nat.testBit_xor, Nat.testBit_and, Nat.testBit_two_pow]
    by_cases hj : j < 16
    · have : ¬ i = 16 * k + j := by omega
      simp [hj, this]
    · simp [hj]
theorem wordsN_clr {B m i : Nat} (hi : i < 16 * m) : (wordsN B m).set (i / 16) ((wordN B (i / 16) ^^^ (wordN B (i / 16) &&& 2 ^ (i % 16)) : Nat) : Int) = wordsN (B ^^^ (B &&& 2 ^ i)) m := by
  refine List.ext_getElem? fun k => ?_
  rw [List.getElem?_set]
  unfold wordsN
  by_cases hk : i / 16 = k
  · subst hk
    have : i / 16 < m := by omega
    simp [this, wordN_clr]
  · rw [if_neg hk]
    by_cases hm : k < m
    · simp [hm, wordN_clr, Ne.symm hk]
    · simp [hm]
end Go.Proofs.YtdkgoaiodjokpaaGreat.M
