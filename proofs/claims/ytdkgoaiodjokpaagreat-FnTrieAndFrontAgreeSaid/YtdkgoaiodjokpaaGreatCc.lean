/-
  What the functions return.
-/
import Derived.Test.YtdkgoaiodjokpaaGreatFc
import Derived.Test.YtdkgoaiodjokpaaGreatCb
namespace Go.Proofs.YtdkgoaiodjokpaaGreat.M
open Go Go.RowKit
set_option linter.unusedVariables false
set_option linter.unusedSimpArgs false
set_option maxRecDepth 4000

theorem c_slices_Equal_string (a b : Option (List Str)) : Fn Tryz.prog 95 [eS a, eS b] (· = .bool (decide (lS a = lS b))) := by
  refine Fn.of free_bool fun h => ?_
  refine enter (by kernel_rfl) e95 (by kernel_rfl) rfl fun hok => ?_
  simp only [r95, initEnv_2]
  have ha := ok_eS (okV_0 hok)
  have hb := ok_eS (okV_1 hok)
  (try (simp (disch := first | omega | (simp <;> omega) | fail) only [push_cast, ↓reduceIte, Nat.reduceEqDiff, Nat.reduceAdd, Nat.reduceMul, Nat.reduceSub, Nat.reduceLT, Int.reduceToNat]))
  first | refine goC_split (fun hc => ?_) (fun hc => ?_) | refine cnd_split (fun hc => ?_) (fun hc => ?_)
  · (try (simp only [decide_eq_true_eq, decide_eq_false_iff_not, Bool.not_eq_true', Bool.not_eq_false', Bool.and_eq_true, Bool.or_eq_true, Int.not_lt, Int.not_le] at hc)); (try (simp (disch := first | omega | (simp <;> omega) | fail) only [push_cast, ↓reduceIte, Nat.reduceEqDiff, Nat.reduceAdd, Nat.reduceMul, Nat.reduceSub, Nat.reduceLT, Int.reduceToNat]))
    symm
    rw [decide_eq_false_iff_not]
    intro he
    rw [he] at hc
    exact hc rfl
  have hlen : (lS a).length = (lS b).length := by (try (simp only [decide_eq_true_eq, decide_eq_false_iff_not, Bool.not_eq_true', Bool.not_eq_false', Bool.and_eq_true, Bool.or_eq_true, Int.not_lt, Int.not_le] at hc)); (try (simp (disch := first | omega | (simp <;> omega) | fail) only [push_cast, ↓reduceIte, Nat.reduceEqDiff, Nat.reduceAdd, Nat.reduceMul, Nat.reduceSub, Nat.reduceLT, Int.reduceToNat])); omega
  (try (simp (disch := first | omega | (simp <;> omega) | fail) only [push_cast, ↓reduceIte, Nat.reduceEqDiff, Nat.reduceAdd, Nat.reduceMul, Nat.reduceSub, Nat.reduceLT, Int.reduceToNat]))
  refine T_for (lS a).length (fun i e h' => Pins e [(0, eS a), (1, eS b), (11, eS a), (12, .int .i64 (lS a).length), (13, .int .i64 i)] ∧ h' = h ∧ (lS a).take i = (lS b).take i) ?_ ?_
  · (try (simp (disch := first | omega | (simp <;> omega) | fail) only [push_cast, ↓reduceIte, Nat.reduceEqDiff, Nat.reduceAdd, Nat.reduceMul, Nat.reduceSub, Nat.reduceLT, Int.reduceToNat]))
    simp
  rintro i e h' hi ⟨hp, rfl, he⟩
  refine T_pins hp fun e => ?_
  (try (simp (disch := first | omega | (simp <;> omega) | fail) only [push_cast, ↓reduceIte, Nat.reduceEqDiff, Nat.reduceAdd, Nat.reduceMul, Nat.reduceSub, Nat.reduceLT, Int.reduceToNat]))
  first | refine goC_split (fun hc => ?_) (fun hc => ?_) | refine cnd_split (fun hc => ?_) (fun hc => ?_)
  · (try (simp only [decide_eq_true_eq, decide_eq_false_iff_not, Bool.not_eq_true', Bool.not_eq_false', Bool.and_eq_true, Bool.or_eq_true, Int.not_lt, Int.not_le] at hc)); (try (simp (disch := first | omega | (simp <;> omega) | fail) only [push_cast, ↓reduceIte, Nat.reduceEqDiff, Nat.reduceAdd, Nat.reduceMul, Nat.reduceSub, Nat.reduceLT, Int.reduceToNat]))
    have hi : i < (lS a).length := by omega
    have hib : i < (lS b).length := by omega
    obtain ⟨x, hx⟩ : ∃ x, x = (lS a).getD i [] := ⟨_, rfl⟩
    obtain ⟨y, hy⟩ : ∃ y, y = (lS b).getD i [] := ⟨_, rfl⟩
    by_cases hxy : x = y
    · have ta : (lS a).take (i + 1) = (lS a).take i ++ [x] := by
        rw [List.take_add_one, hx]
        simp [hi]
      have tb : (lS b).take (i + 1) = (lS b).take i ++ [y] := by
        rw [List.take_add_one, hy]
        simp [hib]
      (try (simp (disch := first | omega | (simp <;> omega) | fail) only [push_cast, ↓reduceIte, Nat.reduceEqDiff, Nat.reduceAdd, Nat.reduceMul, Nat.reduceSub, Nat.reduceLT, Int.reduceToNat, ← hx, ← hy, hxy]))
      rw [ta, tb, he, hxy]
    · (try (simp (disch := first | omega | (simp <;> omega) | fail) only [push_cast, ↓reduceIte, Nat.reduceEqDiff, Nat.reduceAdd, Nat.reduceMul, Nat.reduceSub, Nat.reduceLT, Int.reduceToNat, ← hx, ← hy, hxy]))
      symm
      rw [decide_eq_false_iff_not]
      intro he
      rw [he] at hx
      exact hxy (hx.trans hy.symm)
  · (try (simp only [decide_eq_true_eq, decide_eq_false_iff_not, Bool.not_eq_true', Bool.not_eq_false', Bool.and_eq_true, Bool.or_eq_true, Int.not_lt, Int.not_le] at hc)); (try (simp (disch := first | omega | (simp <;> omega) | fail) only [push_cast, ↓reduceIte, Nat.reduceEqDiff, Nat.reduceAdd, Nat.reduceMul, Nat.reduceSub, Nat.reduceLT, Int.reduceToNat]))
    have hi2 : i = (lS a).length := by omega
    symm
    rw [decide_eq_true_iff]
    rw [hi2, List.take_length] at he
    rw [he, hlen, List.take_length]

def nF : AV := .tup [.str [], .nils, .bool false]
def naV (t : Tr) (i : Int) : AV := match trV t with
  | some K => if 0 ≤ i ∧ i ≤ ((nodesK K).length : Int) - 1 then .tup [.str ((nodesK K).getD i.toNat []), eS (some (nodesK K)), .bool true] else nF
  | none => nF
theorem ow_nF {h : H} {x : AV} {G : Nat → Prop} (ho : Ow h [x] [nF] G) : x = nF := by
  obtain ⟨cs, rfl, h1⟩ := Ow.openTup (show Ow h [x] [.tup _] G from ho)
  rw [ow_atoms_eqT h1 (by simp [M.atom])]
  rfl
theorem nF_ow {h : H} {G : Nat → Prop} : Ow h [nF] [nF] G := (Ow.atom rfl (.atom rfl (.atom rfl .nil)) : Ow h [.str [], .nils, .bool false] [.str [], .nils, .bool false] G).tupOf
theorem ow_na {h : H} {x : AV} {s : Str} {N : List Str} {G : Nat → Prop} (ho : Ow h [x] [.tup [.str s, eS (some N), .bool true]] G) : ∃ b, x = .tup [.str s, .sl b 0 1 N.length N.length, .bool true] ∧ G b ∧ h.cells b = some (N.map .str) := by
  obtain ⟨cs, rfl, h1⟩ := Ow.openTup ho
  have hl : cs.length = 3 := h1.len.symm
  match cs, hl, h1 with
  | [x1, x2, x3], _, h1 =>
    obtain ⟨_, F, f1, h2, _, e1⟩ := h1.uncons
    obtain ⟨F2, F3, f2, h3, e2, e3⟩ := h2.uncons
    have a1 : x1 = .str s := f1.atomOf rfl
    have a3 : x3 = .bool true := h3.atomOf rfl
    obtain ⟨b, rfl, hb, hc⟩ := ow_strs f2
    subst a1 a3
    exact ⟨b, rfl, (e1 b (e2 b hb)).1, hc⟩
theorem own_zF {n : Nat} : Own n zF := own_tup (own_cons_ own_int (own_cons_ own_bool own_nil_))
theorem own_chR {n : Nat} {N : List Str} {s : Str} : Own n (chR N s) := by
  unfold chR
  split
  · exact own_zF
  · exact own_tup (own_cons_ own_int (own_cons_ own_bool own_nil_))
theorem free_zF : Free zF := free_tup (free_cons_ free_int (free_cons_ free_bool free_nil_))
theorem free_chR {N : List Str} {s : Str} : Free (chR N s) := by
  unfold chR
  split
  · exact free_zF
  · exact free_tup (free_cons_ free_int (free_cons_ free_bool free_nil_))
theorem chR_in {N : List Str} {s : Str} (h : s ∈ N) : chR N s = .tup [.int .i64 (fndI N s), .bool true] := by
  unfold chR
  rw [if_neg (fun h5 => fnd_neg.1 h5 h)]

def fnV (t : Tr) (s : Str) : AV := match trV t with
  | some K => chR (nodesK K) s
  | none => zF
theorem chR_nil {s : Str} : chR [] s = zF := by
  unfold chR
  rw [if_pos (by rw [fnd_no (by simp)]; decide)]

theorem cnt_ends {t : Tr} {K : List Str} (h : TrI t K) {i : Nat} (hi : i ≤ (nodesK K).length) : ((List.range i).filter (numW (lI t.en.words)).testBit).length = (((nodesK K).take i).filter fun x => decide (x ∈ K)).length := by
  have h1 := endsTo_filter (P := nodesK K) (g := atB t.en) (p := fun x => decide (x ∈ K)) i hi fun j hj => h.at_ (by omega)
  rw [← h1]
  unfold endsTo
  rw [List.length_map]
  rfl
theorem tx_at {t : Tr} {K : List Str} (h : TrI t K) {s : Str} {i : Nat} (hf : fndI (nodesK K) s = i) : i < (nodesK K).length ∧ atB t.en i = decide (s ∈ K) := by
  have hi := fnd_hi (l := nodesK K) (s := s)
  have hl : i < (nodesK K).length := by omega
  have hm : s ∈ nodesK K := by
    apply Classical.byContradiction
    intro h5
    rw [fnd_no h5] at hf
    omega
  obtain ⟨j, h1, _, h3, _⟩ := fnd_in hm
  have : j = i := by omega
  subst this
  exact ⟨hl, by rw [h.at_ hl, h3]⟩
theorem TrI.words {t : Tr} {K : List Str} (h : TrI t K) : okBt t.en = true := (okT0_in h.ok0).2.1

theorem KyR_all {t : Tr} {o : Option (List Str)} {b : Bool} (h : (b = true ∧ trV t = some (lS o)) ∨ (b = false ∧ trV t = none ∧ lS o = [])) : KyR t (fun _ => true) (.tup [eS o, .bool b]) := by
  refine ⟨o, b, rfl, ?_⟩
  rcases h with ⟨h1, h2⟩ | ⟨h1, h2, h3⟩
  · exact .inl ⟨h1, _, h2, (List.filter_eq_self.2 fun _ _ => rfl).symm⟩
  · exact .inr ⟨h1, h2, h3⟩
theorem KyR_get {t : Tr} {v : AV} (h : KyR t (fun _ => true) v) : ∃ o b, v = .tup [eS o, .bool b] ∧ ((b = true ∧ trV t = some (lS o)) ∨ (b = false ∧ trV t = none ∧ lS o = [])) := by
  obtain ⟨o, b, rfl, h⟩ := h
  refine ⟨o, b, rfl, ?_⟩
  rcases h with ⟨h1, K, h2, h3⟩ | h1
  · rw [List.filter_eq_self.2 fun _ _ => rfl] at h3
    exact .inl ⟨h1, by rw [h3]; exact h2⟩
  · exact .inr h1
theorem ow_tup2 {h : H} {x : AV} {t u : AV} {G : Nat → Prop} (hu : M.atom u = true) (ho : Ow h [x] [.tup [t, u]] G) : ∃ y, x = .tup [y, u] ∧ Ow h [y] [t] G := by
  obtain ⟨cs, rfl, h1⟩ := Ow.openTup ho
  have hl : cs.length = 2 := h1.len.symm
  match cs, hl, h1 with
  | [x1, x2], _, h1 =>
    obtain ⟨F, F', f1, h2, e1, e2⟩ := h1.uncons
    have a2 : x2 = u := h2.atomOf hu
    subst a2
    exact ⟨x1, rfl, f1.mono e1⟩
theorem ow_tup2_of {h : H} {y t u : AV} {G : Nat → Prop} (hu : M.atom u = true) (ho : Ow h [y] [t] G) : Ow h [.tup [y, u]] [.tup [t, u]] G :=
  (ho.cons (F' := fun _ => False) (.atom hu .nil) (fun _ h => h) (fun _ h => h.elim)).tupOf
/-- What the ends are of a right trie. -/
theorem ends_keys {t : Tr} {K L : List Str} (h : TrI t K) (hp : L.Perm (endsTo (nodesK K) (fun i => decide ((i : Int) < t.en.size) && atB t.en i) (nodesK K).length)) (hs : L.Pairwise fun x y => Op.bytesLess y x = false) : L = K := by
  have h1 := trV_sort h.ok0 (h.dec true) hp hs
  rw [trV_of h] at h1
  split at h1
  · injection h1 with h1
    exact h1.symm
  · cases h1
theorem eS_ow {h : H} {x : AV} {o : Option (List Str)} {G : Nat → Prop} (ho : Ow h [x] [eS o] G) : (o = none ∧ x = .nils) ∨ ∃ L b, o = some L ∧ x = .sl b 0 1 L.length L.length ∧ G b ∧ h.cells b = some (L.map .str) := by
  cases o with
  | none => exact .inl ⟨rfl, ho.atomOf rfl⟩
  | some L =>
    obtain ⟨b, h1, h2, h3⟩ := ow_strs ho
    exact .inr ⟨L, b, rfl, h1, h2, h3⟩

def pfB (s x : Str) : Bool := decide (s.length ≤ x.length) && decide (x.take s.length = s)

def noD (t : Tr) : AV := match trV t with
  | some K => .tup [.int .i64 (nodesK K).length, .bool true]
  | none => zF
def haD (t : Tr) (s : Str) : AV := match trV t with
  | some K => .tup [.bool (decide (s ∈ K)), .bool true]
  | none => .tup [.bool false, .bool false]

/-- What holds of one holds of all before it: a piece at the front. -/
theorem dc_at {p : Str → Bool} : ∀ {D : List Str}, D.Pairwise (fun a b => p b = true → p a = true) → ∀ i, i < D.length → (p (D.getD i []) = true ↔ i < (D.filter p).length)
  | [], _, i, hi => by simp at hi
  | x :: D, h, i, hi => by
    rw [List.pairwise_cons] at h
    have hz : p x = false → D.filter p = [] := fun hx => List.filter_eq_nil_iff.2 fun y hy hp => by
      have := h.1 y hy hp
      rw [hx] at this
      cases this
    cases hx : p x
    · rw [List.filter_cons_of_neg (by simp [hx]), hz hx]
      cases i with
      | zero => simp [hx]
      | succ i =>
        have := (dc_at h.2 i (by simpa using hi))
        rw [hz hx] at this
        simpa using this
    · rw [List.filter_cons_of_pos hx]
      cases i with
      | zero => simp [hx]
      | succ i =>
        have := (dc_at h.2 i (by simpa using hi))
        simpa using this
theorem dc_take {p : Str → Bool} : ∀ {D : List Str}, D.Pairwise (fun a b => p b = true → p a = true) → D.filter p = D.take (D.filter p).length
  | [], _ => by simp
  | x :: D, h => by
    rw [List.pairwise_cons] at h
    cases hx : p x
    · have hz : D.filter p = [] := List.filter_eq_nil_iff.2 fun y hy hp => by
        have := h.1 y hy hp
        rw [hx] at this
        cases this
      rw [List.filter_cons_of_neg (by simp [hx]), hz]
      rfl
    · rw [List.filter_cons_of_pos hx, List.length_cons, List.take_succ_cons, ← dc_take h.2]
theorem rk_iff {K : List Str} {s : Str} (h : K.Pairwise slt) {i : Nat} (hi : i < K.length) : Op.bytesLess (K.getD i []) s = true ↔ i < rkS K s :=
  dc_at (p := fun x => Op.bytesLess x s) (h.imp fun hab hb => bl_trans hab hb) i hi
theorem rk_le {K : List Str} {s : Str} : rkS K s ≤ K.length := List.length_filter_le _ _
theorem pfB_iff {s x : Str} : pfB s x = true ↔ s <+: x := by
  unfold pfB
  rw [bgB, decide_eq_true_iff]
theorem pre_ge : ∀ {s x : Str}, s <+: x → Op.bytesLess x s = false
  | [], x, _ => bl_nil x
  | c :: s, [], h => by
    obtain ⟨t, ht⟩ := h
    simp at ht
  | c :: s, d :: x, h => by
    rw [List.cons_prefix_cons] at h
    rw [bl_cons, h.1, pre_ge h.2]
    simp
theorem pre_mid : ∀ {s a b : Str}, s <+: b → Op.bytesLess a b = true → Op.bytesLess a s = false → s <+: a
  | [], a, b, _, _, _ => List.nil_prefix
  | c :: s, a, [], h, _, _ => by
    obtain ⟨t, ht⟩ := h
    simp at ht
  | c :: s, [], d :: b, _, _, h3 => by
    simp [Op.bytesLess] at h3
  | c :: s, e :: a, d :: b, h1, h2, h3 => by
    rw [List.cons_prefix_cons] at h1
    obtain ⟨rfl, h1⟩ := h1
    rw [bl_cons] at h2 h3
    simp only [Bool.or_eq_true, Bool.and_eq_true, Bool.or_eq_false_iff, Bool.and_eq_false_iff, decide_eq_true_eq, decide_eq_false_iff_not, beq_iff_eq] at h2 h3
    obtain ⟨h3, h4⟩ := h3
    rcases h2 with h2 | ⟨rfl, h2⟩
    · exact absurd h2 h3
    · rw [List.cons_prefix_cons]
      refine ⟨rfl, pre_mid h1 h2 ?_⟩
      rcases h4 with h4 | h4
      · simp at h4
      · exact h4
/-- The keys that begin with a string stand together, behind those less than it. -/
theorem pre_piece {K : List Str} {s : Str} (h : K.Pairwise slt) : rkS K s + (K.filter (pfB s)).length ≤ K.length ∧ K.filter (pfB s) = (K.drop (rkS K s)).take (K.filter (pfB s)).length ∧ ∀ i, i < K.length → (pfB s (K.getD i []) = true ↔ rkS K s ≤ i ∧ i < rkS K s + (K.filter (pfB s)).length) := by
  obtain ⟨n, hn⟩ : ∃ n, n = rkS K s := ⟨_, rfl⟩
  have hle : n ≤ K.length := hn ▸ rk_le
  have hrk : ∀ i, i < K.length → (Op.bytesLess (K.getD i []) s = true ↔ i < n) := fun i hi => hn ▸ rk_iff h hi
  rw [← hn]
  have hlo : ∀ i, i < n → pfB s (K.getD i []) = false := fun i hi => by
    cases hp : pfB s (K.getD i [])
    · rfl
    · have := pre_ge (pfB_iff.1 hp)
      rw [(hrk i (by omega)).2 hi] at this
      cases this
  have hge : ∀ x ∈ K.drop n, Op.bytesLess x s = false := fun x hx => by
    obtain ⟨j, hj, rfl⟩ := List.mem_iff_getElem.1 hx
    rw [List.length_drop] at hj
    rw [List.getElem_drop]
    cases hb : Op.bytesLess K[n + j] s
    · rfl
    · have := (hrk (n + j) (by omega)).1 (by rw [List.getD_eq_getElem?_getD, List.getElem?_eq_getElem (by omega)]; exact hb)
      omega
  have hf : K.filter (pfB s) = (K.drop n).filter (pfB s) := by
    conv => lhs; rw [← List.take_append_drop n K]
    rw [List.filter_append, List.filter_eq_nil_iff.2, List.nil_append]
    intro x hx
    obtain ⟨j, hj, rfl⟩ := List.mem_iff_getElem.1 hx
    rw [List.length_take] at hj
    have := hlo j (by omega)
    rw [List.getD_eq_getElem?_getD, List.getElem?_eq_getElem (by omega)] at this
    rw [List.getElem_take]
    simpa using this
  have hD : (K.drop n).Pairwise (fun a b => pfB s b = true → pfB s a = true) := by
    refine List.Pairwise.imp_of_mem (fun {a b} ha _ hab hb => ?_) (h.drop (i := n))
    exact pfB_iff.2 (pre_mid (pfB_iff.1 hb) hab (hge a ha))
  have hl : (K.filter (pfB s)).length ≤ (K.drop n).length := by
    rw [hf]
    exact List.length_filter_le _ _
  rw [List.length_drop] at hl
  refine ⟨by omega, ?_, fun i hi => ?_⟩
  · rw [hf]
    exact dc_take hD
  · rcases Nat.lt_or_ge i n with h5 | h5
    · rw [hlo i h5]
      constructor
      · intro h; cases h
      · intro h; omega
    · have := dc_at hD (i - n) (by rw [List.length_drop]; omega)
      rw [← hf] at this
      have hg : (K.drop n).getD (i - n) [] = K.getD i [] := by
        rw [List.getD_eq_getElem?_getD, List.getD_eq_getElem?_getD, List.getElem?_drop, show n + (i - n) = i by omega]
      rw [hg] at this
      rw [this]
      omega
theorem has_rank {K : List Str} {s : Str} (h : K.Pairwise slt) : s ∈ K ↔ rkS K s < K.length ∧ K.getD (rkS K s) [] = s := by
  constructor
  · intro hs
    obtain ⟨j, hj, hjs⟩ := List.mem_iff_getElem.1 hs
    have hg : K.getD j [] = s := by rw [List.getD_eq_getElem?_getD, List.getElem?_eq_getElem hj]; exact hjs
    have h1 : ¬ j < rkS K s := fun h5 => by
      have := (rk_iff h hj).2 h5
      rw [hg, bl_irr] at this
      cases this
    have h2 : ¬ rkS K s < j := fun h5 => by
      have h6 := List.pairwise_iff_getElem.1 h (rkS K s) j (by omega) hj h5
      rw [hjs] at h6
      have h7 := (rk_iff (s := s) h (show rkS K s < K.length by omega)).1 (by rw [List.getD_eq_getElem?_getD, List.getElem?_eq_getElem (by omega)]; exact h6)
      omega
    have h3 : rkS K s = j := by omega
    rw [h3]
    exact ⟨hj, hg⟩
  · rintro ⟨h1, h2⟩
    rw [List.getD_eq_getElem?_getD, List.getElem?_eq_getElem h1] at h2
    exact h2 ▸ List.getElem_mem h1
/-- The longest key that a string begins with. -/
def lgS (s : Str) (K : List Str) : Str := K.foldl (fun b x => if pfB x s = true ∧ b.length < x.length then x else b) []
theorem lg_snoc {s x : Str} {K : List Str} : lgS s (K ++ [x]) = if pfB x s = true ∧ (lgS s K).length < x.length then x else lgS s K := by
  unfold lgS
  rw [List.foldl_append]
  rfl
theorem lg_inv {s : Str} {K : List Str} : ∀ i, i ≤ K.length → (lgS s (K.take i) = [] ∨ lgS s (K.take i) ∈ K) ∧ pfB (lgS s (K.take i)) s = true ∧ ∀ j, j < i → pfB (K.getD j []) s = true → (K.getD j []).length ≤ (lgS s (K.take i)).length
  | 0, _ => ⟨.inl rfl, pfB_iff.2 List.nil_prefix, fun j hj => by omega⟩
  | i + 1, hi => by
    obtain ⟨h1, h2, h3⟩ := lg_inv (s := s) (K := K) i (by omega)
    have e : K.take (i + 1) = K.take i ++ [K.getD i []] := by
      rw [List.take_add_one]
      simp [show i < K.length by omega]
    rw [e, lg_snoc]
    split
    · rename_i hc
      refine ⟨.inr ?_, hc.1, fun j hj hp => ?_⟩
      · simp [show i < K.length by omega]
      · rcases Nat.lt_or_ge j i with h5 | h5
        · have := h3 j h5 hp
          omega
        · rw [show j = i by omega]
          exact Nat.le_refl _
    · rename_i hc
      refine ⟨h1, h2, fun j hj hp => ?_⟩
      rcases Nat.lt_or_ge j i with h5 | h5
      · exact h3 j h5 hp
      · rw [show j = i by omega] at hp ⊢
        exact Nat.le_of_not_lt fun h6 => hc ⟨hp, h6⟩
theorem lg_all {s : Str} {K : List Str} : (lgS s K = [] ∨ lgS s K ∈ K) ∧ pfB (lgS s K) s = true ∧ ∀ j, j < K.length → pfB (K.getD j []) s = true → (K.getD j []).length ≤ (lgS s K).length := by
  have := lg_inv (s := s) (K := K) K.length (Nat.le_refl _)
  rw [List.take_length] at this
  exact this

theorem ow_frE {h : H} {x : AV} {b : Nat} {K : List Str} {G : Nat → Prop} (ho : Ow h [x] [eFr b K] G) : ∃ x2 x3 F2 F3, x = .agg [.int .i64 b, x2, x3] ∧ Ow h [x2] [eI (oIn (keF K b K.length))] F2 ∧ Ow h [x3] [eS (oSn (taF K b K.length))] F3 ∧ (∀ c, F2 c → G c) ∧ ∀ c, F3 c → G c := by
  obtain ⟨cs, rfl, h1⟩ := Ow.openAgg (show Ow h [x] [.agg (cFr b K)] G from ho)
  have hl : cs.length = 3 := h1.len.symm
  match cs, hl, h1 with
  | [x1, x2, x3], _, h1 =>
    obtain ⟨_, G2, f1, h2, _, g2⟩ := h1.uncons
    obtain ⟨F2, G3, f2, h3, e2, g3⟩ := h2.uncons
    have a1 : x1 = .int .i64 b := f1.atomOf rfl
    subst a1
    exact ⟨x2, x3, F2, G3, rfl, f2, h3, fun c hc => (g2 c (e2 c hc)).1, fun c hc => (g2 c (g3 c hc).1).1⟩
theorem ow_eS {h : H} {x : AV} {w : Option (List Str)} {F : Nat → Prop} (ho : Ow h [x] [eS w] F) : one x = true ∧ cellsOf x = [x] := by
  cases w with
  | none =>
    have : x = .nils := ho.atomOf rfl
    rw [this]
    exact ⟨rfl, rfl⟩
  | some ws =>
    obtain ⟨b, rfl⟩ := Ow.sl1 (show Ow h [x] [.ro 1 _ _] F from ho)
    exact ⟨rfl, rfl⟩
theorem one_cFr {b : Nat} {K : List Str} : (cFr b K).all one = true := by
  have h1 : ∀ o : Option (List Int), one (eI o) = true := fun o => by cases o <;> rfl
  show (one (.int .i64 b) && (one (eI _) && (one (eS _) && true))) = true
  rw [h1, one_eS]
  rfl
/-- What a front-coded list holds gives the keys back. -/
theorem front_next {K : List Str} {b k : Nat} (hk : k < K.length) : kpF K b k ≤ (if k = 0 then 0 else (K.getD (k - 1) []).length) ∧ (if k = 0 then [] else K.getD (k - 1) []).take (kpF K b k) ++ (K.getD k []).drop (kpF K b k) = K.getD k [] := by
  unfold kpF
  by_cases h0 : k % b = 0
  · rw [if_pos h0]
    simp
  · have hk0 : k ≠ 0 := fun h => h0 (by rw [h]; simp)
    rw [if_neg h0, if_neg hk0, if_neg hk0]
    exact ⟨cpl_1 _ _, by rw [cpl_take, List.take_append_drop]⟩

set_option maxHeartbeats 4000000 in
theorem c_impl_Front_keys_o (b : Nat) (K : List Str) (hK : okKeys K = true) (hb : 1 ≤ b) (hb2 : b ≤ 16) : FnO Tryz.prog 45 [.rad (cFr b K) 0] (· = .tup [eS (some K), .bool true]) := by
  intro h
  refine enter (by kernel_rfl) e45 (by kernel_rfl) rfl fun hok => ?_
  simp only [r45, initEnv_1]
  have hKA := okKeys_all hK
  have hkl : (keF K b K.length).length = K.length := keF_len
  have htl : (taF K b K.length).length = K.length := taF_len
  obtain ⟨oi, hoi⟩ : ∃ oi, oi = oIn (keF K b K.length) := ⟨_, rfl⟩
  obtain ⟨os, hos⟩ : ∃ os, os = oSn (taF K b K.length) := ⟨_, rfl⟩
  have hli : lI oi = keF K b K.length := by rw [hoi, lI_oIn]
  have hls : lS os = taF K b K.length := by rw [hos, lS_oSn]
  have hil : (lI oi).length = K.length := by rw [hli, hkl]
  have hsl : (lS os).length = K.length := by rw [hls, htl]
  have hcf : cFr b K = [.int .i64 b, eI oi, eS os] := by rw [hoi, hos]; rfl
  have hi1 := fun n lo hi => c_impl_in n lo hi
  rw [hcf]
  clear hcf
  have e40 : ((K.length : Int) ≤ 40) = True := eq_true (by omega)
  (try (simp (disch := first | omega | (simp <;> omega) | fail) only [push_cast, ↓reduceIte, Nat.reduceEqDiff, Nat.reduceAdd, Nat.reduceMul, Nat.reduceSub, Nat.reduceLT, Int.reduceToNat]))
  refine (c_impl_in (b : Int) 1 16).call ?_
  have hin : (decide ((1 : Int) ≤ (b : Int)) && decide ((b : Int) ≤ 16)) = true := by simp; omega
  rw [hin]
  (try (simp (disch := first | omega | (simp <;> omega) | fail) only [push_cast, ↓reduceIte, Nat.reduceEqDiff, Nat.reduceAdd, Nat.reduceMul, Nat.reduceSub, Nat.reduceLT, Int.reduceToNat, hil, hsl]))
  have hg0 : GsI AV.str h.length (h ++ [some (.cells [])]) (.sl h.length 0 1 0 0) [] := ⟨by simp, [h.length], ⟨rfl, .inr ⟨_, rfl, rfl, by rw [cells_h0]; rfl⟩⟩, by simp⟩
  refine T_for K.length (fun k e h' => ∃ v, Pins e [(0, .rad [.int .i64 b, eI oi, eS os] 0), (4, v), (5, .str (if k = 0 then [] else K.getD (k - 1) [])), (40, eI oi), (41, .int .i64 K.length), (42, .int .i64 k)] ∧ (GsI AV.str h.length h' v (K.take k) ∧ v ≠ .nils)) ?_ ?_
  · refine ⟨.sl h.length 0 1 0 0, ?_⟩
    (try (simp (disch := first | omega | (simp <;> omega) | fail) only [push_cast, ↓reduceIte, Nat.reduceEqDiff, Nat.reduceAdd, Nat.reduceMul, Nat.reduceSub, Nat.reduceLT, Int.reduceToNat, hil]))
    all_goals (try exact ⟨hg0, by simp⟩)
    all_goals (try exact hg0)
    done
  rintro k e h' hk ⟨v, hp, hs2, hv⟩
  refine T_pins hp fun e => ?_
  (try (simp (disch := first | omega | (simp <;> omega) | fail) only [push_cast, ↓reduceIte, Nat.reduceEqDiff, Nat.reduceAdd, Nat.reduceMul, Nat.reduceSub, Nat.reduceLT, Int.reduceToNat]))
  first | refine goC_split (fun hc => ?_) (fun hc => ?_) | refine cnd_split (fun hc => ?_) (fun hc => ?_)
  · (try (simp only [decide_eq_true_eq, decide_eq_false_iff_not, Bool.not_eq_true', Bool.not_eq_false', Bool.and_eq_true, Bool.or_eq_true, Int.not_lt, Int.not_le] at hc)); (try (simp (disch := first | omega | (simp <;> omega) | fail) only [push_cast, ↓reduceIte, Nat.reduceEqDiff, Nat.reduceAdd, Nat.reduceMul, Nat.reduceSub, Nat.reduceLT, Int.reduceToNat]))
    have hk2 : k < K.length := by omega
    obtain ⟨l, hl⟩ : ∃ l, l = (if k = 0 then [] else K.getD (k - 1) []) := ⟨_, rfl⟩
    obtain ⟨y, hy⟩ : ∃ y, y = K.getD k [] := ⟨_, rfl⟩
    obtain ⟨n, hn⟩ : ∃ n, n = kpF K b k := ⟨_, rfl⟩
    obtain ⟨f1, f2⟩ := @front_next K b k hk2
    rw [← hn, ← hl, ← hy] at f2
    rw [← hn] at f1
    have f3 : n ≤ l.length := by
      rw [hl]
      split
      · rename_i h0
        rw [if_pos h0] at f1
        omega
      · rename_i h0
        rw [if_neg h0] at f1
        exact f1
    have hyl : y.length ≤ 12 := (okKey_len (hKA.1 y (by rw [hy]; simp [hk2]))).2
    have hll : l.length ≤ 12 := by
      rw [hl]
      split
      · simp
      · exact (okKey_len (hKA.1 _ (by simp [show k - 1 < K.length by omega]))).2
    have g1 : (lI oi).getD k 0 = (n : Int) := by
      rw [hli, hn]
      unfold keF
      simp [hk2]
    have g2 : (lS os).getD k [] = y.drop n := by
      rw [hls, hn, hy]
      unfold taF
      simp [hk2]
    have hki : k < (lI oi).length := by omega
    have hks : k < (lS os).length := by omega
    have hdl : (y.drop n).length ≤ 12 := by rw [List.length_drop]; omega
    have htk : K.take (k + 1) = K.take k ++ [y] := by
      rw [List.take_add_one, hy]
      simp [hk2]
    have hnl : (l.take n).length = n := by rw [List.length_take]; omega
    rw [← hl]
    (try (simp (disch := first | omega | (simp <;> omega) | fail) only [push_cast, ↓reduceIte, Nat.reduceEqDiff, Nat.reduceAdd, Nat.reduceMul, Nat.reduceSub, Nat.reduceLT, Int.reduceToNat, g1]))
    refine (c_impl_in (n : Int) 0 (l.length : Int)).call ?_
    have hin2 : (decide ((0 : Int) ≤ (n : Int)) && decide ((n : Int) ≤ (l.length : Int))) = true := by simp; omega
    rw [hin2]
    have f4 : (l.drop 0).take (n - 0) ++ y.drop n = y := by rw [List.drop_zero, Nat.sub_zero]; exact f2
    (try (simp (disch := first | omega | (simp <;> omega) | fail) only [push_cast, ↓reduceIte, Nat.reduceEqDiff, Nat.reduceAdd, Nat.reduceMul, Nat.reduceSub, Nat.reduceLT, Int.reduceToNat, g2, f4]))
    refine hs2.app (by_ := 16) (fun c hc => by first | exact Or.inr (by omega) | exact ⟨Or.inr (by omega), by omega⟩) (by rw [List.length_take]; omega) (by decide) fun v' h'' q1 q2 q3 => ?_
    have hv2 : v' ≠ .nils := by
      obtain ⟨b, hb2, _⟩ := q1.at_ (by simp)
      rw [hb2]
      simp
    rw [← htk] at q1
    have hyy : AV.str y = AV.str (K.getD (k + 1 - 1) []) := by rw [hy]; simp
    (try (simp (disch := first | omega | (simp <;> omega) | fail) only [push_cast, ↓reduceIte, Nat.reduceEqDiff, Nat.reduceAdd, Nat.reduceMul, Nat.reduceSub, Nat.reduceLT, Int.reduceToNat]))
    all_goals (try exact ⟨_, ⟨rfl, hyy⟩, q1, hv2⟩)
    all_goals (try exact ⟨q1, hv2⟩)
    done
  · (try (simp only [decide_eq_true_eq, decide_eq_false_iff_not, Bool.not_eq_true', Bool.not_eq_false', Bool.and_eq_true, Bool.or_eq_true, Int.not_lt, Int.not_le] at hc)); (try (simp (disch := first | omega | (simp <;> omega) | fail) only [push_cast, ↓reduceIte, Nat.reduceEqDiff, Nat.reduceAdd, Nat.reduceMul, Nat.reduceSub, Nat.reduceLT, Int.reduceToNat]))
    have hke : k = K.length := by omega
    subst hke
    rw [List.take_length] at hs2
    obtain ⟨hn0, B, hS, hB⟩ := hs2
    rcases hS.2 with ⟨h5, _, _⟩ | ⟨bb, hvb, hBb, hcb⟩
    · exact absurd h5 hv
    subst hvb
    have hb0 : h.length ≤ bb := hB bb (by rw [hBb]; simp)
    have hAK := c_impl_AreKeys (some K)
    have hlK : lS (some K) = K := rfl
    rw [hlK, hK] at hAK
    have hF := c_impl_front_o (some K) b hb (by omega) (by rw [hlK]; omega) (by rw [hlK]; intro s hs; have := (okKey_len (hKA.1 s hs)).2; omega)
    rw [hlK] at hF
    have hvw : ∀ g : H, H.cells g bb = some (K.map .str) → Vw g 0 (.sl bb 0 1 K.length K.length) (eS (some K)) := fun g hg => vw_all (Nat.zero_le _) hg (by simp) (one_map fun _ => rfl) (free_map_ fun _ => free_str)
    (try (simp (disch := first | omega | (simp <;> omega) | fail) only [push_cast, ↓reduceIte, Nat.reduceEqDiff, Nat.reduceAdd, Nat.reduceMul, Nat.reduceSub, Nat.reduceLT, Int.reduceToNat]))
    refine hAK.lendL (.cons (hvw _ hcb) .nil) own_bool ?_
    (try (simp (disch := first | omega | (simp <;> omega) | fail) only [push_cast, ↓reduceIte, Nat.reduceEqDiff, Nat.reduceAdd, Nat.reduceMul, Nat.reduceSub, Nat.reduceLT, Int.reduceToNat]))
    refine hF.goL (.cons (hvw _ hcb) (.free free_int .nil)) fun x t g hR hx how => ?_
    subst hR
    obtain ⟨x2, x3, F2, F3, rfl, o2, o3, s2, s3⟩ := ow_frE how
    rw [← hoi] at o2
    rw [← hos] at o3
    obtain ⟨p1, p2⟩ := ow_eI o2
    obtain ⟨p3, p4⟩ := ow_eS o3
    have hcb2 := hx.cells hcb
    have hlx := hx.len
    have hE1 := c_slices_Equal_int oi oi
    have hE2 := c_slices_Equal_string os os
    rw [decide_eq_true (rfl : lI oi = lI oi)] at hE1
    rw [decide_eq_true (rfl : lS os = lS os)] at hE2
    have hvx2 : ∀ l, Vw (g ++ l) 0 x2 (eI oi) := fun l => (o2.frame fun c hc => List.getElem?_append_left (s2 c hc).2).vw0
    have hvx3 : ∀ l, Vw (g ++ l) 0 x3 (eS os) := fun l => (o3.frame fun c hc => List.getElem?_append_left (s3 c hc).2).vw0
    have hfin : ∀ l, ∃ t, Ow (g ++ l) [.tup [.sl bb 0 1 K.length K.length, .bool true]] [t] (fun c => h.length ≤ c) ∧ t = .tup [eS (some K), .bool true] := fun l => ⟨_, ow_tup2_of rfl (ow_strs_of (cells_app hcb2) hb0), rfl⟩
    (try (simp (disch := first | omega | (simp <;> omega) | fail) only [push_cast, ↓reduceIte, Nat.reduceEqDiff, Nat.reduceAdd, Nat.reduceMul, Nat.reduceSub, Nat.reduceLT, Int.reduceToNat, p1, p2, p3, p4, reads, List.mem_cons, List.mem_append, List.not_mem_nil, nat_ff, or_self, or_false, false_or, not_false_eq_true]))
    refine hE1.lendL (.cons (hvx2 _) (.free free_eI .nil)) own_bool ?_
    (try (simp (disch := first | omega | (simp <;> omega) | fail) only [push_cast, ↓reduceIte, Nat.reduceEqDiff, Nat.reduceAdd, Nat.reduceMul, Nat.reduceSub, Nat.reduceLT, Int.reduceToNat, p1, p2, p3, p4, reads, List.mem_cons, List.mem_append, List.not_mem_nil, nat_ff, or_self, or_false, false_or, not_false_eq_true]))
    refine hE2.lendL (.cons (hvx3 _) (.free free_eS .nil)) own_bool ?_
    (try (simp (disch := first | omega | (simp <;> omega) | fail) only [push_cast, ↓reduceIte, Nat.reduceEqDiff, Nat.reduceAdd, Nat.reduceMul, Nat.reduceSub, Nat.reduceLT, Int.reduceToNat, p1, p2, p3, p4, reads, List.mem_cons, List.mem_append, List.not_mem_nil, nat_ff, or_self, or_false, false_or, not_false_eq_true]))
    all_goals (try exact hfin _)
    done

end Go.Proofs.YtdkgoaiodjokpaaGreat.M
