/-
  What the functions return.
-/
import Derived.Test.YtidhhiecgehgfaaGreatFkc
import Derived.Test.YtidhhiecgehgfaaGreatCkb
namespace Go.Proofs.YtidhhiecgehgfaaGreat.M
open Go Go.RowKit
set_option linter.unusedVariables false
set_option linter.unusedSimpArgs false
set_option maxRecDepth 4000

theorem c_laws_big (a b : Option (List UInt8)) (ha : (lU a).length ≤ 9223372036854775807) : Fn Tryz.prog 31 [eU a, eU b] (· = .bool (decide (1048576 < ((lU a).length : Int)) || decide (1048576 - ((lU a).length : Int) < ((lU b).length : Int)))) := by
  refine Fn.of free_bool fun h => ?_
  refine enter (by kernel_rfl) e31 (by kernel_rfl) rfl fun hok => ?_
  simp only [r31, initEnv_2]
  by_cases h1 : 1048576 < ((lU a).length : Int)
  · (try (simp (disch := first | omega | (simp <;> omega) | fail) only [push_cast, ↓reduceIte, Nat.reduceEqDiff, Nat.reduceAdd, Nat.reduceMul, Nat.reduceSub, Nat.reduceLT, Int.reduceToNat, h1]))
    all_goals (try simp [h1])
  · (try (simp (disch := first | omega | (simp <;> omega) | fail) only [push_cast, ↓reduceIte, Nat.reduceEqDiff, Nat.reduceAdd, Nat.reduceMul, Nat.reduceSub, Nat.reduceLT, Int.reduceToNat, h1]))
    (first | refine goC_split (fun hc => ?_) (fun hc => ?_) | refine cnd_split (fun hc => ?_) (fun hc => ?_)) <;> ((try (simp (disch := first | omega | (simp <;> omega) | fail) only [push_cast, ↓reduceIte, Nat.reduceEqDiff, Nat.reduceAdd, Nat.reduceMul, Nat.reduceSub, Nat.reduceLT, Int.reduceToNat]))) <;> (try rw [hc])

def zF : AV := .tup [.int .i64 0, .bool false]
def paV (t : Tr) (i : Int) : AV := match trV t with
  | some K => if 1 ≤ i ∧ i ≤ ((nodesK K).length : Int) - 1 then .tup [.int .i64 (fndI (nodesK K) (((nodesK K).getD i.toNat []).take (((nodesK K).getD i.toNat []).length - 1))), .bool true] else zF
  | none => zF
def chR (N : List Str) (s : Str) : AV := if fndI N s < 0 then zF else .tup [.int .i64 (fndI N s), .bool true]
def chV (t : Tr) (i c : Int) : AV := match trV t with
  | some K => if (0 ≤ i ∧ i ≤ ((nodesK K).length : Int) - 1) ∧ (0 ≤ c ∧ c ≤ 255) then chR (nodesK K) ((nodesK K).getD i.toNat [] ++ [UInt8.ofNat c.toNat]) else zF
  | none => zF
def txV (t : Tr) (s : Str) : AV := match trV t with
  | some K => if s ∈ K then .tup [.int .i64 (fndI ((nodesK K).filter fun x => decide (x ∈ K)) s), .bool true] else zF
  | none => zF
def rkV (t : Tr) (s : Str) : AV := match trV t with
  | some K => .tup [.int .i64 (rkS K s), .bool true]
  | none => zF
def KyR (t : Tr) (p : Str → Bool) (v : AV) : Prop := ∃ o b, v = .tup [eS o, .bool b] ∧ ((b = true ∧ ∃ K, trV t = some K ∧ lS o = K.filter p) ∨ (b = false ∧ trV t = none ∧ lS o = []))
def okV (t : Tr) : AV := match trV t with
  | some K => .tup [eS (some (nodesK K)), .bool true]
  | none => .tup [.nils, .bool false]
theorem trV_ok {t : Tr} {K : List Str} (h : trV t = some K) : okKeys K = true ∧ K.length ≤ 40 := ⟨(trV_some h).keys, (okKeys_all (trV_some h).keys).2.2⟩
theorem KyR.no {t : Tr} {p : Str → Bool} (h : trV t = none) : KyR t p (.tup [.nils, .bool false]) := ⟨none, false, rfl, .inr ⟨rfl, h, rfl⟩⟩

def nF : AV := .tup [.str [], .nils, .bool false]
def naV (t : Tr) (i : Int) : AV := match trV t with
  | some K => if 0 ≤ i ∧ i ≤ ((nodesK K).length : Int) - 1 then .tup [.str ((nodesK K).getD i.toNat []), eS (some (nodesK K)), .bool true] else nF
  | none => nF
theorem ow_nF {h : H} {x : AV} {G : Nat → Prop} (ho : Ow h [x] [nF] G) : x = nF := by
  obtain ⟨cs, rfl, h1⟩ := Ow.openTup (show Ow h [x] [.tup _] G from ho)
  rw [ow_atoms_eqT h1 (by simp [M.atom])]
  rfl
theorem nF_ow {h : H} {G : Nat → Prop} : Ow h [nF] [nF] G := (Ow.atom rfl (.atom rfl (.atom rfl .nil)) : Ow h [.str [], .nils, .bool false] [.str [], .nils, .bool false] G).tupOf
theorem ow_na {h : H} {x : AV} {s : Str} {N : List Str} {G : Nat → Prop} (ho : Ow h [x] [.tup [.str s, eS (some N), .bool true]] G) : ∃ b, x = .tup [.str s, .sl b 0 1 N.length N.length, .bool true] ∧ G b ∧ h.cells b = some (N.map .str) := by
  obtain ⟨cs, rfl, h1⟩ := Ow.openTup ho
  have hl : cs.length = 3 := h1.len.symm
  match cs, hl, h1 with
  | [x1, x2, x3], _, h1 =>
    obtain ⟨_, F, f1, h2, _, e1⟩ := h1.uncons
    obtain ⟨F2, F3, f2, h3, e2, e3⟩ := h2.uncons
    have a1 : x1 = .str s := f1.atomOf rfl
    have a3 : x3 = .bool true := h3.atomOf rfl
    obtain ⟨b, rfl, hb, hc⟩ := ow_strs f2
    subst a1 a3
    exact ⟨b, rfl, (e1 b (e2 b hb)).1, hc⟩
theorem own_zF {n : Nat} : Own n zF := own_tup (own_cons_ own_int (own_cons_ own_bool own_nil_))
theorem own_chR {n : Nat} {N : List Str} {s : Str} : Own n (chR N s) := by
  unfold chR
  split
  · exact own_zF
  · exact own_tup (own_cons_ own_int (own_cons_ own_bool own_nil_))
theorem free_zF : Free zF := free_tup (free_cons_ free_int (free_cons_ free_bool free_nil_))
theorem free_chR {N : List Str} {s : Str} : Free (chR N s) := by
  unfold chR
  split
  · exact free_zF
  · exact free_tup (free_cons_ free_int (free_cons_ free_bool free_nil_))
theorem chR_in {N : List Str} {s : Str} (h : s ∈ N) : chR N s = .tup [.int .i64 (fndI N s), .bool true] := by
  unfold chR
  rw [if_neg (fun h5 => fnd_neg.1 h5 h)]

def fnV (t : Tr) (s : Str) : AV := match trV t with
  | some K => chR (nodesK K) s
  | none => zF
theorem chR_nil {s : Str} : chR [] s = zF := by
  unfold chR
  rw [if_pos (by rw [fnd_no (by simp)]; decide)]

theorem cnt_ends {t : Tr} {K : List Str} (h : TrI t K) {i : Nat} (hi : i ≤ (nodesK K).length) : ((List.range i).filter (numW (lI t.en.words)).testBit).length = (((nodesK K).take i).filter fun x => decide (x ∈ K)).length := by
  have h1 := endsTo_filter (P := nodesK K) (g := atB t.en) (p := fun x => decide (x ∈ K)) i hi fun j hj => h.at_ (by omega)
  rw [← h1]
  unfold endsTo
  rw [List.length_map]
  rfl
theorem tx_at {t : Tr} {K : List Str} (h : TrI t K) {s : Str} {i : Nat} (hf : fndI (nodesK K) s = i) : i < (nodesK K).length ∧ atB t.en i = decide (s ∈ K) := by
  have hi := fnd_hi (l := nodesK K) (s := s)
  have hl : i < (nodesK K).length := by omega
  have hm : s ∈ nodesK K := by
    apply Classical.byContradiction
    intro h5
    rw [fnd_no h5] at hf
    omega
  obtain ⟨j, h1, _, h3, _⟩ := fnd_in hm
  have : j = i := by omega
  subst this
  exact ⟨hl, by rw [h.at_ hl, h3]⟩
theorem TrI.words {t : Tr} {K : List Str} (h : TrI t K) : okBt t.en = true := (okT0_in h.ok0).2.1

theorem KyR_all {t : Tr} {o : Option (List Str)} {b : Bool} (h : (b = true ∧ trV t = some (lS o)) ∨ (b = false ∧ trV t = none ∧ lS o = [])) : KyR t (fun _ => true) (.tup [eS o, .bool b]) := by
  refine ⟨o, b, rfl, ?_⟩
  rcases h with ⟨h1, h2⟩ | ⟨h1, h2, h3⟩
  · exact .inl ⟨h1, _, h2, (List.filter_eq_self.2 fun _ _ => rfl).symm⟩
  · exact .inr ⟨h1, h2, h3⟩
theorem KyR_get {t : Tr} {v : AV} (h : KyR t (fun _ => true) v) : ∃ o b, v = .tup [eS o, .bool b] ∧ ((b = true ∧ trV t = some (lS o)) ∨ (b = false ∧ trV t = none ∧ lS o = [])) := by
  obtain ⟨o, b, rfl, h⟩ := h
  refine ⟨o, b, rfl, ?_⟩
  rcases h with ⟨h1, K, h2, h3⟩ | h1
  · rw [List.filter_eq_self.2 fun _ _ => rfl] at h3
    exact .inl ⟨h1, by rw [h3]; exact h2⟩
  · exact .inr h1
theorem ow_tup2 {h : H} {x : AV} {t u : AV} {G : Nat → Prop} (hu : M.atom u = true) (ho : Ow h [x] [.tup [t, u]] G) : ∃ y, x = .tup [y, u] ∧ Ow h [y] [t] G := by
  obtain ⟨cs, rfl, h1⟩ := Ow.openTup ho
  have hl : cs.length = 2 := h1.len.symm
  match cs, hl, h1 with
  | [x1, x2], _, h1 =>
    obtain ⟨F, F', f1, h2, e1, e2⟩ := h1.uncons
    have a2 : x2 = u := h2.atomOf hu
    subst a2
    exact ⟨x1, rfl, f1.mono e1⟩
theorem ow_tup2_of {h : H} {y t u : AV} {G : Nat → Prop} (hu : M.atom u = true) (ho : Ow h [y] [t] G) : Ow h [.tup [y, u]] [.tup [t, u]] G :=
  (ho.cons (F' := fun _ => False) (.atom hu .nil) (fun _ h => h) (fun _ h => h.elim)).tupOf
/-- What the ends are of a right trie. -/
theorem ends_keys {t : Tr} {K L : List Str} (h : TrI t K) (hp : L.Perm (endsTo (nodesK K) (fun i => decide ((i : Int) < t.en.size) && atB t.en i) (nodesK K).length)) (hs : L.Pairwise fun x y => Op.bytesLess y x = false) : L = K := by
  have h1 := trV_sort h.ok0 (h.dec true) hp hs
  rw [trV_of h] at h1
  split at h1
  · injection h1 with h1
    exact h1.symm
  · cases h1
theorem eS_ow {h : H} {x : AV} {o : Option (List Str)} {G : Nat → Prop} (ho : Ow h [x] [eS o] G) : (o = none ∧ x = .nils) ∨ ∃ L b, o = some L ∧ x = .sl b 0 1 L.length L.length ∧ G b ∧ h.cells b = some (L.map .str) := by
  cases o with
  | none => exact .inl ⟨rfl, ho.atomOf rfl⟩
  | some L =>
    obtain ⟨b, h1, h2, h3⟩ := ow_strs ho
    exact .inr ⟨L, b, rfl, h1, h2, h3⟩

theorem c_impl_Trie_keys_o (t : Tr) : FnO Tryz.prog 67 [.rad (cTr t) 0] (KyR t fun _ => true) := by
  intro h
  refine enter (by kernel_rfl) e67 (by kernel_rfl) rfl fun hok => ?_
  simp only [r67, initEnv_1]
  have hn := c_impl_Trie_nodes_o t
  have hE := c_impl_Trie_ends_o t
  have hkk := fun K => @trV_ok t K
  have hI := fun K => @trV_some t K
  have hky := fun o b => @KyR_all t o b
  have hnv : noV t = match trV t with | some K => eS (some (nodesK K)) | none => .nils := rfl
  have hfc := @free_cTr t
  rw [hnv] at hn
  clear hnv
  cases hv : trV t with
  | none =>
    rw [hv] at hn
    simp only at hn
    have hno : ∀ hh : H, ∃ t', Ow hh [.tup [.nils, .bool false]] [t'] (fun c => h.length ≤ c) ∧ KyR t (fun _ => true) t' := fun hh => ⟨_, ow_tup2_of rfl (.atom rfl .nil), hky none false (.inr ⟨rfl, hv, rfl⟩)⟩
    obtain ⟨⟨ss, sw⟩, ⟨es, ew⟩, lab⟩ := t
    (try (simp (disch := first | omega | (simp <;> omega) | fail) only [push_cast, ↓reduceIte, Nat.reduceEqDiff, Nat.reduceAdd, Nat.reduceMul, Nat.reduceSub, Nat.reduceLT, Int.reduceToNat]))
    refine hn.go fun x t' g hR hx how => ?_
    subst hR
    have hxn : x = .nils := how.atomOf rfl
    subst hxn
    (try (simp (disch := first | omega | (simp <;> omega) | fail) only [push_cast, ↓reduceIte, Nat.reduceEqDiff, Nat.reduceAdd, Nat.reduceMul, Nat.reduceSub, Nat.reduceLT, Int.reduceToNat]))
    all_goals (try exact hno _)
    done
  | some K =>
    rw [hv] at hn
    simp only at hn
    have hIK := hI K hv
    have hN1 := nodesK_cap (hkk K hv).2
    have hE2 := hE (some (nodesK K)) hIK.words (by show (nodesK K).length ≤ 5000; omega)
    have hek := fun L => @ends_keys t K L hIK
    have hyes : ∀ (hh : H) (x : AV), Ow hh [x] [eS (some K)] (fun c => h.length ≤ c) → ∃ t', Ow hh [.tup [x, .bool true]] [t'] (fun c => h.length ≤ c) ∧ KyR t (fun _ => true) t' := fun hh x hx => ⟨_, ow_tup2_of rfl hx, hky (some K) true (.inl ⟨rfl, hv⟩)⟩
    obtain ⟨⟨ss, sw⟩, ⟨es, ew⟩, lab⟩ := t
    (try (simp (disch := first | omega | (simp <;> omega) | fail) only [push_cast, ↓reduceIte, Nat.reduceEqDiff, Nat.reduceAdd, Nat.reduceMul, Nat.reduceSub, Nat.reduceLT, Int.reduceToNat]))
    refine hn.go fun x t' g hR hx how => ?_
    subst hR
    obtain ⟨b, rfl, hb0, hcb⟩ := ow_strs how
    (try (simp (disch := first | omega | (simp <;> omega) | fail) only [push_cast, ↓reduceIte, Nat.reduceEqDiff, Nat.reduceAdd, Nat.reduceMul, Nat.reduceSub, Nat.reduceLT, Int.reduceToNat]))
    refine hE2.goL (.free (free_radT hfc) (.cons (vw_all (Nat.zero_le _) hcb (by simp) (one_map fun _ => rfl) (free_map_ fun _ => free_str)) .nil)) fun x t' g2 hR hx2 how2 => ?_
    obtain ⟨L, rfl, p1, p2⟩ := hR
    have hLK : L = K := hek L p1 p2
    subst hLK
    have hl1 := hx.len
    have hf := hyes g2 x (how2.mono fun c hc => by have := hc.1; omega)
    (try (simp (disch := first | omega | (simp <;> omega) | fail) only [push_cast, ↓reduceIte, Nat.reduceEqDiff, Nat.reduceAdd, Nat.reduceMul, Nat.reduceSub, Nat.reduceLT, Int.reduceToNat]))
    all_goals (try exact hf)
    done

theorem c_impl_TrieKeys_o (t : Tr) : FnO Tryz.prog 24 [eTr t] (KyR t fun _ => true) := by
  intro h
  refine enter (by kernel_rfl) e24 (by kernel_rfl) rfl fun hok => ?_
  simp only [r24, initEnv_1]
  have hk := c_impl_Trie_keys_o t
  have hfc := @free_cTr t
  have hcb0 : H.cells (h ++ [some (.cells (cTr t))]) h.length = some (cTr t) := by rw [cells_h0]; rfl
  have hg : ∀ v, KyR t (fun _ => true) v → ∃ o b, v = .tup [eS o, .bool b] := fun v hv => by
    obtain ⟨o, b, h1, _⟩ := hv
    exact ⟨o, b, h1⟩
  obtain ⟨⟨ss, sw⟩, ⟨es, ew⟩, lab⟩ := t
  (try (simp (disch := first | omega | (simp <;> omega) | fail) only [push_cast, ↓reduceIte, Nat.reduceEqDiff, Nat.reduceAdd, Nat.reduceMul, Nat.reduceSub, Nat.reduceLT, Int.reduceToNat]))
  refine hk.goL (.adr hcb0 hfc .nil) fun x t' g hR hx how => ?_
  obtain ⟨o, b, rfl⟩ := hg _ hR
  obtain ⟨y, rfl, hy⟩ := ow_tup2 rfl how
  have hl := hx.len
  simp only [List.length_append, List.length_cons, List.length_nil] at hl
  have hf : ∃ t', Ow g [.tup [y, .bool b]] [t'] (fun c => h.length ≤ c) ∧ KyR ⟨⟨ss, sw⟩, ⟨es, ew⟩, lab⟩ (fun _ => true) t' := ⟨_, ow_tup2_of rfl (hy.mono fun c hc => by have := hc.1; simp at this; omega), hR⟩
  (try (simp (disch := first | omega | (simp <;> omega) | fail) only [push_cast, ↓reduceIte, Nat.reduceEqDiff, Nat.reduceAdd, Nat.reduceMul, Nat.reduceSub, Nat.reduceLT, Int.reduceToNat]))
  all_goals (try exact hf)

theorem c_spec_TrieKeys (t : Tr) : Fn Tryz.prog 23 [eTr t] (KyR t fun _ => true) := by
  refine Fn.froze_ fun h => ?_
  refine enter (by kernel_rfl) e23 (by kernel_rfl) rfl fun hok => ?_
  simp only [r23, initEnv_1]
  have hk := c_spec_trKeys t
  have hno : trV t = none → ∀ hh : H, ∃ t', Vw hh h.length (.tup [.nils, .bool false]) t' ∧ KyR t (fun _ => true) t' := fun h5 hh => ⟨_, .free (free_tup (free_cons_ free_nils (free_cons_ free_bool free_nil_))), KyR.no h5⟩
  have hyes : ∀ (o : Option (List Str)), trV t = some (lS o) → ∀ hh : H, ∃ t', Vw hh h.length (.tup [eS o, .bool true]) t' ∧ KyR t (fun _ => true) t' := fun o h5 hh => ⟨_, .free (free_tup (free_cons_ free_eS (free_cons_ free_bool free_nil_))), o, true, rfl, .inl ⟨rfl, _, h5, (List.filter_eq_self.2 fun _ _ => rfl).symm⟩⟩
  obtain ⟨⟨ss, sw⟩, ⟨es, ew⟩, lab⟩ := t
  (try (simp (disch := first | omega | (simp <;> omega) | fail) only [push_cast, ↓reduceIte, Nat.reduceEqDiff, Nat.reduceAdd, Nat.reduceMul, Nat.reduceSub, Nat.reduceLT, Int.reduceToNat]))
  refine hk.use fun x hx => ?_
  obtain ⟨o, b, rfl, ⟨rfl, hx⟩ | ⟨rfl, hx⟩⟩ := hx
  · have hy := hyes o hx
    (try (simp (disch := first | omega | (simp <;> omega) | fail) only [push_cast, ↓reduceIte, Nat.reduceEqDiff, Nat.reduceAdd, Nat.reduceMul, Nat.reduceSub, Nat.reduceLT, Int.reduceToNat]))
    all_goals (try exact hy _)
  · have hn := hno hx
    (try (simp (disch := first | omega | (simp <;> omega) | fail) only [push_cast, ↓reduceIte, Nat.reduceEqDiff, Nat.reduceAdd, Nat.reduceMul, Nat.reduceSub, Nat.reduceLT, Int.reduceToNat]))
    all_goals (try exact hn _)

theorem c_laws_pSameTexts (a b : Option (List Str)) (hab : lS a = lS b) : Fn Tryz.prog 38 [eS a, eS b] (· = .bool true) := by
  refine Fn.of free_bool fun h => ?_
  refine enter (by kernel_rfl) e38 (by kernel_rfl) rfl fun hok => ?_
  simp only [r38, initEnv_2]
  have ha := ok_eS (okV_0 hok)
  have hl : (lS a).length = (lS b).length := by rw [hab]
  (try (simp (disch := first | omega | (simp <;> omega) | fail) only [push_cast, ↓reduceIte, Nat.reduceEqDiff, Nat.reduceAdd, Nat.reduceMul, Nat.reduceSub, Nat.reduceLT, Int.reduceToNat, hl]))
  refine T_for (lS b).length (fun i e h' => Pins e [(0, eS a), (1, eS b), (12, .int .i64 (lS b).length), (13, .int .i64 i)] ∧ h' = h) ?_ ?_
  · (try (simp (disch := first | omega | (simp <;> omega) | fail) only [push_cast, ↓reduceIte, Nat.reduceEqDiff, Nat.reduceAdd, Nat.reduceMul, Nat.reduceSub, Nat.reduceLT, Int.reduceToNat, hl]))
  rintro i e h' hi ⟨hp, rfl⟩
  refine T_pins hp fun e => ?_
  (try (simp (disch := first | omega | (simp <;> omega) | fail) only [push_cast, ↓reduceIte, Nat.reduceEqDiff, Nat.reduceAdd, Nat.reduceMul, Nat.reduceSub, Nat.reduceLT, Int.reduceToNat]))
  first | refine goC_split (fun hc => ?_) (fun hc => ?_) | refine cnd_split (fun hc => ?_) (fun hc => ?_)
  · (try (simp only [decide_eq_true_eq, decide_eq_false_iff_not, Bool.not_eq_true', Bool.not_eq_false', Bool.and_eq_true, Bool.or_eq_true, Int.not_lt, Int.not_le] at hc)); (try (simp (disch := first | omega | (simp <;> omega) | fail) only [push_cast, ↓reduceIte, Nat.reduceEqDiff, Nat.reduceAdd, Nat.reduceMul, Nat.reduceSub, Nat.reduceLT, Int.reduceToNat]))
    have hi2 : i < (lS b).length := by omega
    have hi3 : i < (lS a).length := by omega
    have hg : (lS a).getD i [] = (lS b).getD i [] := by rw [hab]
    (try (simp (disch := first | omega | (simp <;> omega) | fail) only [push_cast, ↓reduceIte, Nat.reduceEqDiff, Nat.reduceAdd, Nat.reduceMul, Nat.reduceSub, Nat.reduceLT, Int.reduceToNat, hg, reads, List.mem_cons, List.mem_append, List.not_mem_nil, nat_ff, or_self, or_false, false_or, not_false_eq_true]))
  · (try (simp only [decide_eq_true_eq, decide_eq_false_iff_not, Bool.not_eq_true', Bool.not_eq_false', Bool.and_eq_true, Bool.or_eq_true, Int.not_lt, Int.not_le] at hc)); (try (simp (disch := first | omega | (simp <;> omega) | fail) only [push_cast, ↓reduceIte, Nat.reduceEqDiff, Nat.reduceAdd, Nat.reduceMul, Nat.reduceSub, Nat.reduceLT, Int.reduceToNat]))

theorem c_impl_BuildTrie_o (o : Option (List Str)) (hK : okKeys (lS o) = true) : FnO Tryz.prog 39 [eS o] (· = .tup [eTr (tK (lS o)), .bool true]) := by
  intro h
  refine enter (by kernel_rfl) e39 (by kernel_rfl) rfl fun hok => ?_
  simp only [r39, initEnv_1]
  have ht := c_impl_trie_o o hK
  have hAK := c_impl_AreKeys o
  rw [hK] at hAK
  (try (simp (disch := first | omega | (simp <;> omega) | fail) only [push_cast, ↓reduceIte, Nat.reduceEqDiff, Nat.reduceAdd, Nat.reduceMul, Nat.reduceSub, Nat.reduceLT, Int.reduceToNat]))
  refine hAK.call ?_
  (try (simp (disch := first | omega | (simp <;> omega) | fail) only [push_cast, ↓reduceIte, Nat.reduceEqDiff, Nat.reduceAdd, Nat.reduceMul, Nat.reduceSub, Nat.reduceLT, Int.reduceToNat]))
  refine ht.go fun x t g hR hx how => ?_
  subst hR
  generalize tK (lS o) = T at *
  obtain ⟨x2, x4, F2, F4, rfl, f2, f4, f5, f6, _⟩ := ow_trE how
  obtain ⟨p1, p2⟩ := ow_eI f2
  obtain ⟨p3, p4⟩ := ow_eI f4
  have hl := hx.len
  simp only [List.length_append, List.length_cons, List.length_nil] at hl
  have hb := hx.cells (b := h.length) (cs := [.int .i64 0, .nils, .int .i64 0, .nils, .str []]) (by rw [cells_h0]; rfl)
  have hpm : (h.length ≤ h.length) = True := by simp
  have hw := fun cs => cells_wr2 (cells_lt hb) (cs := cs)
  have hfin : ∀ cs, ∃ t', Ow (wr g h.length cs) [.tup [.agg [.int .i64 T.sh.size, x2, .int .i64 T.en.size, x4, .str T.lab], .bool true]] [t'] (fun c => h.length ≤ c) ∧ t' = .tup [eTr T, .bool true] := fun cs => by
    have hwr : ∀ c, c ≠ h.length → (wr g h.length cs)[c]? = g[c]? := fun c hc => by
      unfold wr
      rw [List.getElem?_set_ne (Ne.symm hc)]
    have h2 : ∀ c, F2 c → h.length + 1 ≤ c := fun c hc => by have := (f5 c hc).1; simpa using this
    have h4 : ∀ c, F4 c → h.length + 1 ≤ c ∧ ¬ F2 c := fun c hc => ⟨by have := (f6 c hc).1.1; simpa using this, (f6 c hc).2⟩
    have hT := ow_tr (lab := T.lab) (a := T.sh.size) (c := T.en.size) (n0 := h.length) (f2.frame fun c hc => hwr c (by have := h2 c hc; omega)) (f4.frame fun c hc => hwr c (by have := (h4 c hc).1; omega)) (fun c hc => by have := h2 c hc; omega) (fun c hc => ⟨by have := (h4 c hc).1; omega, (h4 c hc).2⟩)
    exact ⟨_, (hT.cons (F' := fun _ => False) (.atom rfl .nil) (fun _ h => h) (fun _ h => h.elim)).tupOf, rfl⟩
  (try (simp (disch := first | omega | (simp <;> omega) | fail) only [push_cast, ↓reduceIte, Nat.reduceEqDiff, Nat.reduceAdd, Nat.reduceMul, Nat.reduceSub, Nat.reduceLT, Int.reduceToNat, p1, p2, p3, p4, hb, hpm, hw, reads, List.mem_cons, List.mem_append, List.not_mem_nil, nat_ff, or_self, or_false, false_or, not_false_eq_true]))
  all_goals (try exact hfin _)

def hk (seed part : Int) (s : Str) : Int := s.foldl (fun h c => (263 * h + (c.toNat : Int)) % 65521) ((31 * seed + 977 * part + 7) % 65521)
theorem hk_bd (seed part : Int) : ∀ s : Str, 0 ≤ hk seed part s ∧ hk seed part s < 65521 := by
  intro s
  have key : ∀ (s : Str) (h : Int), 0 ≤ h ∧ h < 65521 → 0 ≤ s.foldl (fun h c => (263 * h + (c.toNat : Int)) % 65521) h ∧ s.foldl (fun h c => (263 * h + (c.toNat : Int)) % 65521) h < 65521 := by
    intro s
    induction s with
    | nil => exact fun h hh => hh
    | cons c s ih =>
      intro h hh
      rw [List.foldl_cons]
      refine ih _ ?_
      show 0 ≤ (263 * h + (c.toNat : Int)) % 65521 ∧ (263 * h + (c.toNat : Int)) % 65521 < 65521
      omega
  exact key s _ ⟨by omega, by omega⟩
theorem hk_take {seed part : Int} {s : Str} {i : Nat} (hi : i < s.length) : hk seed part (s.take (i + 1)) = (263 * hk seed part (s.take i) + ((s.getD i 0).toNat : Int)) % 65521 := by
  unfold hk
  rw [List.take_add_one, List.foldl_append]
  simp [hi]
/-- The hash. -/
def hashV (seed part : Int) (s : Str) : Int := hk seed part s ^ 11 % 65521
theorem hashV_bd (seed part : Int) (s : Str) : 0 ≤ hashV seed part s ∧ hashV seed part s < 65521 := by
  unfold hashV
  exact ⟨by omega, by omega⟩
def placeV (seed part : Int) (s : Str) (n : Int) : Int := hashV seed part s * n / 65521
theorem pow_step (h : Int) (i : Nat) : h ^ i % 65521 * h % 65521 = h ^ (i + 1) % 65521 := by
  rw [Int.pow_succ, Int.mul_emod (h ^ i % 65521) h, Int.emod_emod_of_dvd _ (Int.dvd_refl _), ← Int.mul_emod]
theorem pow_join (h : Int) (i j : Nat) : (h ^ i % 65521) * (h ^ j % 65521) % 65521 = h ^ (i + j) % 65521 := by
  rw [← Int.mul_emod, Int.pow_add]

--eng lenA_ePS iaddr_ePS eP ld_P get_P0 get_P1 get_P2 cellsOf_ePS one_ePS cP
structure Pd where
  seed : Int
  seg : Int
  marks : Option (List Int)
  deriving Inhabited
def cP (p : Pd) : List AV := [.int .i64 p.seed, .int .i64 p.seg, eI p.marks]
theorem cP_len (p : Pd) : (cP p).length = 3 := rfl
def eP (p : Pd) : AV := .agg (cP p)
def ePS : Option (List Pd) → AV
  | none => .nils
  | some l => .ro 3 (l.flatMap cP) l.length
def lP : Option (List Pd) → List Pd
  | none => []
  | some l => l
theorem lenA_ePS {l : Option (List Pd)} : lenA (ePS l) = some (.int .i64 (lP l).length) := by cases l <;> rfl
theorem iaddr_ePS {l : Option (List Pd)} {k : IntKind} {n : Int} (h1 : 0 ≤ n) (h2 : n < (lP l).length) : iaddrA 3 (ePS l) (.int k n) = some (.rad ((lP l).flatMap cP) (n.toNat * 3)) := by
  cases l with
  | none => simp [lP] at h2; omega
  | some l => exact iaddrA_ro h1 h2
theorem ld_P {l : List Pd} {i : Nat} (hi : i < l.length) : ld true 3 (l.flatMap cP) (i * 3) = some (.agg (cP (l.getD i default))) := ld_row cP_len default hi
theorem get_P0 {l : List Pd} {i : Nat} (hi : i < l.length) : (l.flatMap cP)[i * 3]? = some (.int .i64 (l.getD i default).seed) := flatMap_get cP_len default (k := 0) hi (by omega)
theorem get_P1 {l : List Pd} {i : Nat} (hi : i < l.length) : (l.flatMap cP)[i * 3 + 1]? = some (.int .i64 (l.getD i default).seg) := flatMap_get cP_len default (k := 1) hi (by omega)
theorem get_P2 {l : List Pd} {i : Nat} (hi : i < l.length) : (l.flatMap cP)[i * 3 + 2]? = some (eI (l.getD i default).marks) := flatMap_get cP_len default (k := 2) hi (by omega)
theorem one_ePS {l : Option (List Pd)} : one (ePS l) = true := by cases l <;> rfl
theorem cellsOf_ePS {l : Option (List Pd)} : cellsOf (ePS l) = [ePS l] := by cases l <;> rfl
theorem free_cP {p : Pd} : ∀ c ∈ cP p, Free c := free_cons_ free_int (free_cons_ free_int (free_cons_ free_eI free_nil_))
theorem free_eP {p : Pd} : Free (eP p) := free_agg free_cP
theorem free_ePS {l : Option (List Pd)} : Free (ePS l) := by
  cases l with
  | none => exact free_nils
  | some l => exact free_ro (fun c hc => by obtain ⟨p, _, hp⟩ := List.mem_flatMap.1 hc; exact free_cP c hp)
theorem ok_ePS {l : Option (List Pd)} (h : OkV (ePS l)) : (lP l).length ≤ 9223372036854775807 := by
  cases l with
  | none => simp [lP]
  | some l => exact h.ro.1
def wPS (a : Option (List Pd)) : Nat := (lP a).length + ((lP a).map fun p => (lI p.marks).length).sum
/-- A copy of it. -/
def cpP (p : Pd) : Pd := ⟨p.seed, p.seg, some (lI p.marks)⟩
def cPc (p : Pd) : List AV := cP (cpP p)
theorem cPc_len (p : Pd) : (cPc p).length = 3 := rfl

attribute [push_cast] lenA_ePS iaddr_ePS eP ld_P get_P0 get_P1 get_P2 cellsOf_ePS one_ePS cP
def rank (l : List Int) (n : Nat) : Nat := (l.take n).countP (fun m => decide (m ≠ 3))
theorem rank_0 {l : List Int} : rank l 0 = 0 := by simp [rank]
theorem rank_le {l : List Int} {n : Nat} : rank l n ≤ n := by
  unfold rank
  have := List.countP_le_length (p := fun m : Int => decide (m ≠ 3)) (l := l.take n)
  have h2 : (l.take n).length ≤ n := by simp; omega
  omega
theorem rank_succ {l : List Int} {n : Nat} (hn : n < l.length) : rank l (n + 1) = rank l n + (if l.getD n 0 = 3 then 0 else 1) := by
  unfold rank
  rw [List.take_add_one, List.countP_append]
  congr 1
  by_cases h : l.getD n 0 = 3
  · have h' : l[n] = 3 := by simpa [hn] using h
    simp [hn, h']
  · have h' : l[n] ≠ 3 := by simpa [hn] using h
    simp [hn, h']
def okMarks (l : List Int) : Bool := l.all fun m => decide (0 ≤ m) && decide (m ≤ 3)
def okPd (p : Pd) : Bool := (decide (0 ≤ p.seed) && decide (p.seed ≤ 9999)) && ((decide (1 ≤ p.seg) && decide (p.seg ≤ 24)) && (decide (((lI p.marks).length : Int) = 3 * p.seg) && okMarks (lI p.marks)))

def sameP (p q : Pd) : Bool := decide (p.seed = q.seed) && (decide (p.seg = q.seg) && decide (lI p.marks = lI q.marks))
theorem sameP_cp (p : Pd) : sameP (cpP p) (cpP p) = true := by simp [sameP]
/-- The first so many are the same. -/
def sameFrom (l m : List Pd) : Nat → Bool
  | 0 => true
  | i + 1 => sameFrom l m i && sameP (l.getD i default) (m.getD i default)
theorem sameFrom_false {l m : List Pd} {i : Nat} : ∀ {j}, i ≤ j → sameFrom l m i = false → sameFrom l m j = false
  | 0, h, hf => by
    rw [show i = 0 by omega] at hf
    exact hf
  | j + 1, h, hf => by
    by_cases hi : i = j + 1
    · rw [← hi]
      exact hf
    · simp [sameFrom, sameFrom_false (show i ≤ j by omega) hf]
def samePS (l m : List Pd) : Bool := decide ((l.length : Int) = m.length) && sameFrom l m l.length
theorem samePS_cp (l : List Pd) : samePS (l.map cpP) (l.map cpP) = true := by
  have : ∀ n, sameFrom (l.map cpP) (l.map cpP) n = true := by
    intro n
    induction n with
    | zero => rfl
    | succ n ih => simp [sameFrom, ih, sameP]
  simp [samePS, this]

--eng eSh
structure Sh_ where
  seed : Int
  parts : Option (List Pd)
  offs : Option (List Int)
def eSh (s : Sh_) : AV := .agg [.int .i64 s.seed, ePS s.parts, eI s.offs]
def cpSh (s : Sh_) : Sh_ := ⟨s.seed, some ((lP s.parts).map cpP), some (lI s.offs)⟩
theorem free_eSh {s : Sh_} : Free (eSh s) := free_agg (free_cons_ free_int (free_cons_ free_ePS (free_cons_ free_eI free_nil_)))
def wSh (s : Sh_) : Nat := wPS s.parts + (lI s.offs).length

attribute [push_cast] eSh
def usedP (p : Pd) : Nat := rank (lI p.marks) (lI p.marks).length
def offAt (l : List Pd) (i : Nat) : Nat := ((l.take i).map usedP).sum
theorem offAt_0 {l : List Pd} : offAt l 0 = 0 := by simp [offAt]
theorem offAt_succ {l : List Pd} {i : Nat} (hi : i < l.length) : offAt l (i + 1) = offAt l i + usedP (l.getD i default) := by
  unfold offAt
  rw [List.take_add_one, List.map_append, List.sum_append]
  simp [hi]
theorem offAt_le {l : List Pd} {w : Nat} (hw : ∀ i, i < l.length → (lI (l.getD i default).marks).length ≤ w) : ∀ i, i ≤ l.length → offAt l i ≤ i * w
  | 0, _ => by simp [offAt_0]
  | i + 1, hi => by
    rw [offAt_succ (by omega), Nat.succ_mul]
    have h1 := offAt_le hw i (by omega)
    have h2 := hw i (by omega)
    have h3 : usedP (l.getD i default) ≤ _ := rank_le
    omega
theorem offAt_ok {l : List Pd} : ∀ i, i ≤ l.length → (l.take i).all okPd = true → offAt l i ≤ i * 72
  | 0, _, _ => by simp [offAt_0]
  | i + 1, hi, h => by
    rw [List.take_add_one, List.all_append, Bool.and_eq_true] at h
    have h0 : i < l.length := by omega
    have h1 := offAt_ok i (by omega) h.1
    have h2 : okPd (l.getD i default) = true := by
      have := h.2
      simp [h0] at this
      simpa [h0] using this
    simp only [okPd, Bool.and_eq_true, decide_eq_true_eq] at h2
    rw [offAt_succ h0]
    have h3 : usedP (l.getD i default) ≤ _ := rank_le
    omega
def offsL (l : List Pd) (i : Nat) : List Int := (List.range i).map fun j => (offAt l j : Int)
theorem offsL_len {l : List Pd} {i : Nat} : (offsL l i).length = i := by simp [offsL]
theorem offsL_succ {l : List Pd} {i : Nat} : offsL l (i + 1) = offsL l i ++ [(offAt l i : Int)] := by simp [offsL, List.range_succ]
def okSh (s : Sh_) : Bool := (decide (0 ≤ s.seed) && decide (s.seed ≤ 9999)) && ((decide (1 ≤ ((lP s.parts).length : Int)) && decide (((lP s.parts).length : Int) ≤ 8)) && ((lP s.parts).all okPd && decide (lI s.offs = offsL (lP s.parts) (lP s.parts).length)))
theorem okPd_len {p : Pd} (h : okPd p = true) : (lI p.marks).length ≤ 72 := by
  simp only [okPd, Bool.and_eq_true, decide_eq_true_eq] at h
  omega

theorem placeV_bd {seed part : Int} {s : Str} {n : Int} (hn : 0 < n) : 0 ≤ placeV seed part s n ∧ placeV seed part s n < n := by
  obtain ⟨h1, h2⟩ := hashV_bd seed part s
  unfold placeV
  have h3 : 0 ≤ hashV seed part s * n := Int.mul_nonneg h1 (by omega)
  have h4 : hashV seed part s * n < 65521 * n := Int.mul_lt_mul_of_pos_right h2 hn
  constructor
  · omega
  · omega
/-- The places of a key. -/
def tri (seed : Int) (key : Str) (seg : Int) (n : Nat) : List Int := (List.range n).map fun j : Nat => placeV seed (j : Int) key seg + (j : Int) * seg
theorem tri_succ {seed : Int} {key : Str} {seg : Int} {n : Nat} : tri seed key seg (n + 1) = tri seed key seg n ++ [placeV seed (n : Int) key seg + (n : Int) * seg] := by simp [tri, List.range_succ]
theorem tri_len {seed : Int} {key : Str} {seg : Int} {n : Nat} : (tri seed key seg n).length = n := by simp [tri]
theorem tri_get {seed : Int} {key : Str} {seg : Int} {n i : Nat} (hi : i < n) : (tri seed key seg n).getD i 0 = placeV seed (i : Int) key seg + (i : Int) * seg := by simp [tri, hi]
theorem tri_bd {seed : Int} {key : Str} {seg : Int} {i : Nat} (hs : 0 < seg) (hi : i < 3) : 0 ≤ (tri seed key seg 3).getD i 0 ∧ (tri seed key seg 3).getD i 0 < 3 * seg := by
  rw [tri_get hi]
  have := placeV_bd (seed := seed) (part := (i : Int)) (s := key) hs
  have h3 : i = 0 ∨ i = 1 ∨ i = 2 := by omega
  rcases h3 with rfl | rfl | rfl <;> omega
def sumAt (m : List Int) (l : List Int) : Int := (l.map fun p => m.getD p.toNat 0).sum
theorem sumAt_take {m l : List Int} {i : Nat} (hi : i < l.length) : sumAt m (l.take (i + 1)) = sumAt m (l.take i) + m.getD (l.getD i 0).toNat 0 := by
  unfold sumAt
  rw [List.take_add_one, List.map_append, List.sum_append]
  simp [hi]
theorem okMarks_get {m : List Int} (h : okMarks m = true) (i : Nat) : 0 ≤ m.getD i 0 ∧ m.getD i 0 ≤ 3 := by
  by_cases hi : i < m.length
  · have := List.all_eq_true.1 h (m.getD i 0) (by simp [hi])
    simp only [Bool.and_eq_true, decide_eq_true_eq] at this
    exact this
  · simp [hi]
theorem sumAt_bd {m : List Int} (h : okMarks m = true) : ∀ l : List Int, 0 ≤ sumAt m l ∧ sumAt m l ≤ 3 * l.length
  | [] => by simp [sumAt]
  | p :: l => by
    have h1 := sumAt_bd h l
    have h2 := okMarks_get h p.toNat
    have h3 : sumAt m (p :: l) = m.getD p.toNat 0 + sumAt m l := by simp [sumAt]
    rw [h3]
    simp only [List.length_cons]
    omega
/-- The place to which a key is led. -/
def leadV (p : Pd) (key : Str) : Int := (tri p.seed key p.seg 3).getD (sumAt (lI p.marks) (tri p.seed key p.seg 3) % 3).toNat 0
structure OkP (p : Pd) : Prop where
  s0 : 0 ≤ p.seed
  s1 : p.seed ≤ 9999
  g0 : 1 ≤ p.seg
  g1 : p.seg ≤ 24
  ml : ((lI p.marks).length : Int) = 3 * p.seg
  mo : okMarks (lI p.marks) = true
theorem okP_of {p : Pd} (h : okPd p = true) : OkP p := by
  simp only [okPd, Bool.and_eq_true, decide_eq_true_eq] at h
  exact ⟨h.1.1, h.1.2, h.2.1.1, h.2.1.2, h.2.2.1, h.2.2.2⟩
theorem leadV_bd {p : Pd} (h : OkP p) (key : Str) : 0 ≤ leadV p key ∧ leadV p key < (lI p.marks).length := by
  have hs := sumAt_bd h.mo (tri p.seed key p.seg 3)
  have := tri_bd (seed := p.seed) (key := key) (seg := p.seg) (i := (sumAt (lI p.marks) (tri p.seed key p.seg 3) % 3).toNat) (by have := h.g0; omega) (by omega)
  have := h.ml
  unfold leadV
  omega

theorem c_laws_pSameInts (a b : Option (List Int)) : Fn Tryz.prog 121 [eI a, eI b] (· = .bool (decide (lI a = lI b))) := by
  refine Fn.of free_bool fun h => ?_
  refine enter (by kernel_rfl) e121 (by kernel_rfl) rfl fun hok => ?_
  simp only [r121, initEnv_2]
  have ha := ok_eI (okV_0 hok)
  have hb := ok_eI (okV_1 hok)
  (try (simp (disch := first | omega | (simp <;> omega) | fail) only [push_cast, ↓reduceIte, Nat.reduceEqDiff, Nat.reduceAdd, Nat.reduceMul, Nat.reduceSub, Nat.reduceLT, Int.reduceToNat]))
  first | refine goC_split (fun hc => ?_) (fun hc => ?_) | refine cnd_split (fun hc => ?_) (fun hc => ?_)
  · (try (simp only [decide_eq_true_eq, decide_eq_false_iff_not, Bool.not_eq_true', Bool.not_eq_false', Bool.and_eq_true, Bool.or_eq_true, Int.not_lt, Int.not_le] at hc)); (try (simp (disch := first | omega | (simp <;> omega) | fail) only [push_cast, ↓reduceIte, Nat.reduceEqDiff, Nat.reduceAdd, Nat.reduceMul, Nat.reduceSub, Nat.reduceLT, Int.reduceToNat]))
    have : lI a ≠ lI b := fun h => hc (by rw [h])
    rw [decide_eq_false this]
  (try (simp only [decide_eq_true_eq, decide_eq_false_iff_not, Bool.not_eq_true', Bool.not_eq_false', Bool.and_eq_true, Bool.or_eq_true, Int.not_lt, Int.not_le] at hc)); (try (simp (disch := first | omega | (simp <;> omega) | fail) only [push_cast, ↓reduceIte, Nat.reduceEqDiff, Nat.reduceAdd, Nat.reduceMul, Nat.reduceSub, Nat.reduceLT, Int.reduceToNat]))
  have hll : (lI a).length = (lI b).length := by omega
  refine T_for (lI a).length (fun i e h' => Pins e [(0, eI a), (1, eI b), (12, .int .i64 (lI a).length), (13, .int .i64 i)] ∧ h' = h ∧ (lI a).take i = (lI b).take i) ?_ ?_
  · (try (simp (disch := first | omega | (simp <;> omega) | fail) only [push_cast, ↓reduceIte, Nat.reduceEqDiff, Nat.reduceAdd, Nat.reduceMul, Nat.reduceSub, Nat.reduceLT, Int.reduceToNat]))
    all_goals (try simp)
  rintro i e h' hi ⟨hp, rfl, ht⟩
  refine T_pins hp fun e => ?_
  (try (simp (disch := first | omega | (simp <;> omega) | fail) only [push_cast, ↓reduceIte, Nat.reduceEqDiff, Nat.reduceAdd, Nat.reduceMul, Nat.reduceSub, Nat.reduceLT, Int.reduceToNat]))
  first | refine goC_split (fun hd => ?_) (fun hd => ?_) | refine cnd_split (fun hd => ?_) (fun hd => ?_)
  · (try (simp only [decide_eq_true_eq, decide_eq_false_iff_not, Bool.not_eq_true', Bool.not_eq_false', Bool.and_eq_true, Bool.or_eq_true, Int.not_lt, Int.not_le] at hd)); (try (simp (disch := first | omega | (simp <;> omega) | fail) only [push_cast, ↓reduceIte, Nat.reduceEqDiff, Nat.reduceAdd, Nat.reduceMul, Nat.reduceSub, Nat.reduceLT, Int.reduceToNat]))
    have hi2 : i < (lI a).length := by omega
    have hi3 : i < (lI b).length := by omega
    have ha1 : (lI a).take (i + 1) = (lI a).take i ++ [(lI a).getD i 0] := by
      rw [List.take_add_one]
      simp [hi2]
    have hb1 : (lI b).take (i + 1) = (lI b).take i ++ [(lI b).getD i 0] := by
      rw [List.take_add_one]
      simp [hi3]
    (try (simp (disch := first | omega | (simp <;> omega) | fail) only [push_cast, ↓reduceIte, Nat.reduceEqDiff, Nat.reduceAdd, Nat.reduceMul, Nat.reduceSub, Nat.reduceLT, Int.reduceToNat]))
    first | refine goC_split (fun he => ?_) (fun he => ?_) | refine cnd_split (fun he => ?_) (fun he => ?_)
    · (try (simp only [decide_eq_true_eq, decide_eq_false_iff_not, Bool.not_eq_true', Bool.not_eq_false', Bool.and_eq_true, Bool.or_eq_true, Int.not_lt, Int.not_le] at he)); (try (simp (disch := first | omega | (simp <;> omega) | fail) only [push_cast, ↓reduceIte, Nat.reduceEqDiff, Nat.reduceAdd, Nat.reduceMul, Nat.reduceSub, Nat.reduceLT, Int.reduceToNat]))
      have : lI a ≠ lI b := fun h => he (by rw [h])
      rw [decide_eq_false this]
    · (try (simp only [decide_eq_true_eq, decide_eq_false_iff_not, Bool.not_eq_true', Bool.not_eq_false', Bool.and_eq_true, Bool.or_eq_true, Int.not_lt, Int.not_le] at he)); (try (simp (disch := first | omega | (simp <;> omega) | fail) only [push_cast, ↓reduceIte, Nat.reduceEqDiff, Nat.reduceAdd, Nat.reduceMul, Nat.reduceSub, Nat.reduceLT, Int.reduceToNat]))
      rw [ha1, hb1, ht, he]
      (try (simp (disch := first | omega | (simp <;> omega) | fail) only [push_cast, ↓reduceIte, Nat.reduceEqDiff, Nat.reduceAdd, Nat.reduceMul, Nat.reduceSub, Nat.reduceLT, Int.reduceToNat]))
  · (try (simp only [decide_eq_true_eq, decide_eq_false_iff_not, Bool.not_eq_true', Bool.not_eq_false', Bool.and_eq_true, Bool.or_eq_true, Int.not_lt, Int.not_le] at hd)); (try (simp (disch := first | omega | (simp <;> omega) | fail) only [push_cast, ↓reduceIte, Nat.reduceEqDiff, Nat.reduceAdd, Nat.reduceMul, Nat.reduceSub, Nat.reduceLT, Int.reduceToNat]))
    have : lI a = lI b := by
      rw [List.take_of_length_le (by omega), List.take_of_length_le (by omega)] at ht
      exact ht
    rw [decide_eq_true this]

theorem c_laws_pSameBits (b c : Bt) : Fn Tryz.prog 79 [eB b, eB c] (· = .bool (decide (b.size = c.size) && decide (lI b.words = lI c.words))) := by
  refine Fn.of free_bool fun h => ?_
  refine enter (by kernel_rfl) e79 (by kernel_rfl) rfl fun hok => ?_
  simp only [r79, initEnv_2]
  (try (simp (disch := first | omega | (simp <;> omega) | fail) only [push_cast, ↓reduceIte, Nat.reduceEqDiff, Nat.reduceAdd, Nat.reduceMul, Nat.reduceSub, Nat.reduceLT, Int.reduceToNat]))
  cases hs : decide (b.size = c.size)
  · (try (simp (disch := first | omega | (simp <;> omega) | fail) only [push_cast, ↓reduceIte, Nat.reduceEqDiff, Nat.reduceAdd, Nat.reduceMul, Nat.reduceSub, Nat.reduceLT, Int.reduceToNat]))
  (try (simp (disch := first | omega | (simp <;> omega) | fail) only [push_cast, ↓reduceIte, Nat.reduceEqDiff, Nat.reduceAdd, Nat.reduceMul, Nat.reduceSub, Nat.reduceLT, Int.reduceToNat]))
  refine (c_laws_pSameInts _ _).call ?_
  (try (simp (disch := first | omega | (simp <;> omega) | fail) only [push_cast, ↓reduceIte, Nat.reduceEqDiff, Nat.reduceAdd, Nat.reduceMul, Nat.reduceSub, Nat.reduceLT, Int.reduceToNat]))

theorem c_laws_pSameTrie (a b : Tr) : Fn Tryz.prog 40 [eTr a, eTr b] (· = .bool (sameT a b)) := by
  refine Fn.of free_bool fun h => ?_
  refine enter (by kernel_rfl) e40 (by kernel_rfl) rfl fun hok => ?_
  simp only [r40, initEnv_2]
  have hs : sameT a b = (sameB a.sh b.sh && (sameB a.en b.en && decide (a.lab = b.lab))) := rfl
  have hB : ∀ x y : Bt, Fn Tryz.prog 79 [eB x, eB y] (· = .bool (sameB x y)) := fun x y => c_laws_pSameBits x y
  rw [hs]
  (try (simp (disch := first | omega | (simp <;> omega) | fail) only [push_cast, ↓reduceIte, Nat.reduceEqDiff, Nat.reduceAdd, Nat.reduceMul, Nat.reduceSub, Nat.reduceLT, Int.reduceToNat]))
  refine (hB a.sh b.sh).call ?_
  cases h1 : sameB a.sh b.sh
  · (try (simp (disch := first | omega | (simp <;> omega) | fail) only [push_cast, ↓reduceIte, Nat.reduceEqDiff, Nat.reduceAdd, Nat.reduceMul, Nat.reduceSub, Nat.reduceLT, Int.reduceToNat]))
  (try (simp (disch := first | omega | (simp <;> omega) | fail) only [push_cast, ↓reduceIte, Nat.reduceEqDiff, Nat.reduceAdd, Nat.reduceMul, Nat.reduceSub, Nat.reduceLT, Int.reduceToNat]))
  refine (hB a.en b.en).call ?_
  cases h2 : sameB a.en b.en
  · (try (simp (disch := first | omega | (simp <;> omega) | fail) only [push_cast, ↓reduceIte, Nat.reduceEqDiff, Nat.reduceAdd, Nat.reduceMul, Nat.reduceSub, Nat.reduceLT, Int.reduceToNat]))
  · by_cases hl : a.lab = b.lab
    · (try (simp (disch := first | omega | (simp <;> omega) | fail) only [push_cast, ↓reduceIte, Nat.reduceEqDiff, Nat.reduceAdd, Nat.reduceMul, Nat.reduceSub, Nat.reduceLT, Int.reduceToNat, hl]))
    · (try (simp (disch := first | omega | (simp <;> omega) | fail) only [push_cast, ↓reduceIte, Nat.reduceEqDiff, Nat.reduceAdd, Nat.reduceMul, Nat.reduceSub, Nat.reduceLT, Int.reduceToNat, hl]))

theorem c_impl_placedAt (o : Option (List Str)) (s : Str) : Fn Tryz.prog 58 [eS o, .str s] (· = chR (lS o) s) := by
  refine Fn.of free_chR fun h => ?_
  refine enter (by kernel_rfl) e58 (by kernel_rfl) rfl fun hok => ?_
  simp only [r58, initEnv_2]
  have hlo := fnd_lo (l := lS o) (s := s)
  have hhi := fnd_hi (l := lS o) (s := s)
  have hlen := ok_eS (okV_0 hok)
  have hch : chR (lS o) s = if fndI (lS o) s < 0 then zF else .tup [.int .i64 (fndI (lS o) s), .bool true] := rfl
  rw [hch]
  (try (simp (disch := first | omega | (simp <;> omega) | fail) only [push_cast, ↓reduceIte, Nat.reduceEqDiff, Nat.reduceAdd, Nat.reduceMul, Nat.reduceSub, Nat.reduceLT, Int.reduceToNat]))
  refine (c_slices_Index_string o s).call ?_
  generalize fndI (lS o) s = k at *
  by_cases hk0 : k < 0
  · rw [if_pos hk0]
    have hk1 : k = -1 := by omega
    subst hk1
    (try (simp (disch := first | omega | (simp <;> omega) | fail) only [push_cast, ↓reduceIte, Nat.reduceEqDiff, Nat.reduceAdd, Nat.reduceMul, Nat.reduceSub, Nat.reduceLT, Int.reduceToNat, zF]))
    done
  · rw [if_neg hk0]
    have hk1 : (0 ≤ k) = True := by simp; omega
    (try (simp (disch := first | omega | (simp <;> omega) | fail) only [push_cast, ↓reduceIte, Nat.reduceEqDiff, Nat.reduceAdd, Nat.reduceMul, Nat.reduceSub, Nat.reduceLT, Int.reduceToNat, hk1]))
    done

theorem c_impl_FindNode (t : Tr) (s : Str) : Fn Tryz.prog 35 [eTr t, .str s] (· = fnV t s) := by
  refine Fn.of (by unfold fnV; split <;> first | exact free_zF | exact free_chR) fun h => ?_
  refine enter (by kernel_rfl) e35 (by kernel_rfl) rfl fun hok => ?_
  simp only [r35, initEnv_2]
  have hn := c_impl_Trie_nodes_o t
  have hnv : noV t = match trV t with | some K => eS (some (nodesK K)) | none => .nils := rfl
  have hfv : fnV t s = match trV t with | some K => chR (nodesK K) s | none => zF := rfl
  have hfc := @free_cTr t
  rw [hnv] at hn
  clear hnv
  generalize fnV t s = R at hfv
  have hcb0 : H.cells (h ++ [some (.cells (cTr t))]) h.length = some (cTr t) := by rw [cells_h0]; rfl
  obtain ⟨⟨ss, sw⟩, ⟨es, ew⟩, lab⟩ := t
  (try (simp (disch := first | omega | (simp <;> omega) | fail) only [push_cast, ↓reduceIte, Nat.reduceEqDiff, Nat.reduceAdd, Nat.reduceMul, Nat.reduceSub, Nat.reduceLT, Int.reduceToNat]))
  cases hv : trV ⟨⟨ss, sw⟩, ⟨es, ew⟩, lab⟩ with
  | none =>
    rw [hv] at hn hfv
    simp only at hn hfv
    subst hfv
    refine hn.goL (.adr hcb0 hfc .nil) fun x t' g hR hx how => ?_
    subst hR
    have hxn : x = .nils := how.atomOf rfl
    subst hxn
    (try (simp (disch := first | omega | (simp <;> omega) | fail) only [push_cast, ↓reduceIte, Nat.reduceEqDiff, Nat.reduceAdd, Nat.reduceMul, Nat.reduceSub, Nat.reduceLT, Int.reduceToNat]))
    refine (c_impl_placedAt none s).call ?_
    have hlN : lS none = [] := rfl
    rw [hlN, chR_nil]
    (try (simp (disch := first | omega | (simp <;> omega) | fail) only [push_cast, ↓reduceIte, Nat.reduceEqDiff, Nat.reduceAdd, Nat.reduceMul, Nat.reduceSub, Nat.reduceLT, Int.reduceToNat, zF]))
  | some K =>
    rw [hv] at hn hfv
    simp only at hn hfv
    generalize nodesK K = N at *
    subst hfv
    refine hn.goL (.adr hcb0 hfc .nil) fun x t' g hR hx how => ?_
    subst hR
    obtain ⟨b, rfl, hb0, hcb⟩ := ow_strs how
    (try (simp (disch := first | omega | (simp <;> omega) | fail) only [push_cast, ↓reduceIte, Nat.reduceEqDiff, Nat.reduceAdd, Nat.reduceMul, Nat.reduceSub, Nat.reduceLT, Int.reduceToNat]))
    refine (c_impl_placedAt (some N) s).lendL (.cons (vw_all (Nat.zero_le _) hcb (by simp) (one_map fun _ => rfl) (free_map_ fun _ => free_str)) (.free free_str .nil)) own_chR ?_
    have hlN : lS (some N) = N := rfl
    rw [hlN]
    have hch : chR N s = if fndI N s < 0 then zF else .tup [.int .i64 (fndI N s), .bool true] := rfl
    rw [hch]
    split
    · (try (simp (disch := first | omega | (simp <;> omega) | fail) only [push_cast, ↓reduceIte, Nat.reduceEqDiff, Nat.reduceAdd, Nat.reduceMul, Nat.reduceSub, Nat.reduceLT, Int.reduceToNat, zF]))
    · (try (simp (disch := first | omega | (simp <;> omega) | fail) only [push_cast, ↓reduceIte, Nat.reduceEqDiff, Nat.reduceAdd, Nat.reduceMul, Nat.reduceSub, Nat.reduceLT, Int.reduceToNat]))

def cntB (B n : Nat) : Nat := ((List.range n).filter B.testBit).length
theorem cntB_succ {B n : Nat} : cntB B (n + 1) = cntB B n + if B.testBit n then 1 else 0 := by
  unfold cntB
  rw [List.range_succ, List.filter_append, List.length_append]
  cases h : B.testBit n <;> simp [h]
theorem cntB_le {B : Nat} : ∀ {n : Nat}, cntB B n ≤ n
  | 0 => by simp [cntB]
  | n + 1 => by
    rw [cntB_succ]
    have := cntB_le (B := B) (n := n)
    split <;> omega
theorem c_impl_Bits_count (ws : Option (List Int)) (B m n : Nat) (cs : List AV) (off : Nat) (h1 : cs[off + 1]? = some (eI ws)) (hw : lI ws = wordsN B m) (hn : n ≤ 16 * m) (hm : m ≤ 100000) : Fn Tryz.prog 65 [.rad cs off, .int .i64 0, .int .i64 n] (· = .int .i64 (cntB B n)) := by
  refine Fn.of free_int fun h => ?_
  refine enter (by kernel_rfl) e65 (by kernel_rfl) rfl fun hok => ?_
  simp only [r65, initEnv_3]
  have hle := @cntB_le B
  (try (simp (disch := first | omega | (simp <;> omega) | fail) only [push_cast, ↓reduceIte, Nat.reduceEqDiff, Nat.reduceAdd, Nat.reduceMul, Nat.reduceSub, Nat.reduceLT, Int.reduceToNat]))
  refine T_for n (fun i e h' => Pins e [(0, .rad cs off), (2, .int .i64 n), (7, .int .i64 (cntB B i)), (8, .int .i64 i)] ∧ h' = h) ?_ ?_
  · (try (simp (disch := first | omega | (simp <;> omega) | fail) only [push_cast, ↓reduceIte, Nat.reduceEqDiff, Nat.reduceAdd, Nat.reduceMul, Nat.reduceSub, Nat.reduceLT, Int.reduceToNat]))
    all_goals (try simp [cntB])
  rintro i e h' hi ⟨hp, rfl⟩
  refine T_pins hp fun e => ?_
  have hli := @hle i
  have hsu := @cntB_succ B i
  (try (simp (disch := first | omega | (simp <;> omega) | fail) only [push_cast, ↓reduceIte, Nat.reduceEqDiff, Nat.reduceAdd, Nat.reduceMul, Nat.reduceSub, Nat.reduceLT, Int.reduceToNat]))
  first | refine goC_split (fun hc => ?_) (fun hc => ?_) | refine cnd_split (fun hc => ?_) (fun hc => ?_)
  · (try (simp only [decide_eq_true_eq, decide_eq_false_iff_not, Bool.not_eq_true', Bool.not_eq_false', Bool.and_eq_true, Bool.or_eq_true, Int.not_lt, Int.not_le] at hc)); (try (simp (disch := first | omega | (simp <;> omega) | fail) only [push_cast, ↓reduceIte, Nat.reduceEqDiff, Nat.reduceAdd, Nat.reduceMul, Nat.reduceSub, Nat.reduceLT, Int.reduceToNat]))
    have hi2 : i < n := by omega
    (try (simp (disch := first | omega | (simp <;> omega) | fail) only [push_cast, ↓reduceIte, Nat.reduceEqDiff, Nat.reduceAdd, Nat.reduceMul, Nat.reduceSub, Nat.reduceLT, Int.reduceToNat]))
    refine (c_impl_Bits_at ws B m i cs off h1 hw (by omega) (by omega)).call ?_
    cases hb : B.testBit i
    · rw [hb, if_neg (by simp)] at hsu
      (try (simp (disch := first | omega | (simp <;> omega) | fail) only [push_cast, ↓reduceIte, Nat.reduceEqDiff, Nat.reduceAdd, Nat.reduceMul, Nat.reduceSub, Nat.reduceLT, Int.reduceToNat, hsu]))
      all_goals (try rfl)
    · rw [hb, if_pos rfl] at hsu
      (try (simp (disch := first | omega | (simp <;> omega) | fail) only [push_cast, ↓reduceIte, Nat.reduceEqDiff, Nat.reduceAdd, Nat.reduceMul, Nat.reduceSub, Nat.reduceLT, Int.reduceToNat, hsu]))
      all_goals (try rfl)
      all_goals (try omega)
  · (try (simp only [decide_eq_true_eq, decide_eq_false_iff_not, Bool.not_eq_true', Bool.not_eq_false', Bool.and_eq_true, Bool.or_eq_true, Int.not_lt, Int.not_le] at hc)); (try (simp (disch := first | omega | (simp <;> omega) | fail) only [push_cast, ↓reduceIte, Nat.reduceEqDiff, Nat.reduceAdd, Nat.reduceMul, Nat.reduceSub, Nat.reduceLT, Int.reduceToNat]))
    have hie : i = n := by omega
    subst hie
    (try (simp (disch := first | omega | (simp <;> omega) | fail) only [push_cast, ↓reduceIte, Nat.reduceEqDiff, Nat.reduceAdd, Nat.reduceMul, Nat.reduceSub, Nat.reduceLT, Int.reduceToNat]))

theorem c_impl_TrieIndex (t : Tr) (s : Str) : Fn Tryz.prog 20 [eTr t, .str s] (· = txV t s) := by
  refine Fn.of (by unfold txV; split <;> (try split) <;> first | exact free_zF | exact free_tup (free_cons_ free_int (free_cons_ free_bool free_nil_))) fun h => ?_
  refine enter (by kernel_rfl) e20 (by kernel_rfl) rfl fun hok => ?_
  simp only [r20, initEnv_2]
  have hf := c_impl_FindNode t s
  have hkk := fun K => @trV_ok t K
  have hI := fun K => @trV_some t K
  have hfv : fnV t s = match trV t with | some K => chR (nodesK K) s | none => zF := rfl
  have hpv : txV t s = match trV t with | some K => if s ∈ K then .tup [.int .i64 (fndI ((nodesK K).filter fun x => decide (x ∈ K)) s), .bool true] else zF | none => zF := rfl
  have hfc := @free_cTr t
  rw [hfv] at hf
  clear hfv
  generalize txV t s = R at hpv
  have hcb0 : H.cells (h ++ [some (.cells (cTr t))]) h.length = some (cTr t) := by rw [cells_h0]; rfl
  cases hv : trV t with
  | none =>
    obtain ⟨⟨ss, sw⟩, ⟨es, ew⟩, lab⟩ := t
    rw [hv] at hf hpv
    simp only at hf hpv
    subst hpv
    (try (simp (disch := first | omega | (simp <;> omega) | fail) only [push_cast, ↓reduceIte, Nat.reduceEqDiff, Nat.reduceAdd, Nat.reduceMul, Nat.reduceSub, Nat.reduceLT, Int.reduceToNat]))
    refine hf.call ?_
    (try (simp (disch := first | omega | (simp <;> omega) | fail) only [push_cast, ↓reduceIte, Nat.reduceEqDiff, Nat.reduceAdd, Nat.reduceMul, Nat.reduceSub, Nat.reduceLT, Int.reduceToNat, zF]))
    done
  | some K =>
    rw [hv] at hf hpv
    simp only at hf hpv
    have hIK := hI K hv
    have hwk := okBt_num hIK.words
    have hsz := hIK.size
    by_cases hsN : s ∈ nodesK K
    · obtain ⟨i, f1, f2, f3, f4⟩ := fnd_in hsN
      have f5 := (tx_at hIK f1).2
      have f6 := cnt_ends hIK (Nat.le_of_lt f2)
      have f7 := fnd_filter (p := fun x => decide (x ∈ K)) f1
      have hN1 := nodesK_cap (hkk K hv).2
      rw [chR_in hsN, f1] at hf
      have hat : atB t.en i = (numW (lI t.en.words)).testBit i := rfl
      obtain ⟨⟨ss, sw⟩, ⟨es, ew⟩, lab⟩ := t
      obtain ⟨e1, e2, e3, e4⟩ := hwk
      simp only at hsz e1 e2 e3 e4 f5 f6 hat
      (try (simp (disch := first | omega | (simp <;> omega) | fail) only [push_cast, ↓reduceIte, Nat.reduceEqDiff, Nat.reduceAdd, Nat.reduceMul, Nat.reduceSub, Nat.reduceLT, Int.reduceToNat]))
      refine hf.call ?_
      (try (simp (disch := first | omega | (simp <;> omega) | fail) only [push_cast, ↓reduceIte, Nat.reduceEqDiff, Nat.reduceAdd, Nat.reduceMul, Nat.reduceSub, Nat.reduceLT, Int.reduceToNat]))
      refine (c_impl_Bits_at ew (numW (lI ew)) (lI ew).length i [.int .i64 ss, eI sw, .int .i64 es, eI ew, .str lab] 2 rfl e1 (by omega) (by omega)).lendL (.adr hcb0 hfc (.free free_int .nil)) own_bool ?_
      rw [← hat, f5]
      by_cases hsK : s ∈ K
      · rw [decide_eq_true hsK]
        rw [if_pos hsK] at hpv
        have f8 := f7 (by simp [hsK])
        have hcnt := c_impl_Bits_count ew (numW (lI ew)) (lI ew).length i [.int .i64 ss, eI sw, .int .i64 es, eI ew, .str lab] 2 rfl e1 (by omega) (by omega)
        have hcb : cntB (numW (lI ew)) i = (((nodesK K).take i).filter fun x => decide (x ∈ K)).length := f6
        rw [hcb] at hcnt
        rw [f8] at hpv
        subst hpv
        (try (simp (disch := first | omega | (simp <;> omega) | fail) only [push_cast, ↓reduceIte, Nat.reduceEqDiff, Nat.reduceAdd, Nat.reduceMul, Nat.reduceSub, Nat.reduceLT, Int.reduceToNat]))
        refine hcnt.lendL (.adr hcb0 hfc (.free free_int (.free free_int .nil))) own_int ?_
        (try (simp (disch := first | omega | (simp <;> omega) | fail) only [push_cast, ↓reduceIte, Nat.reduceEqDiff, Nat.reduceAdd, Nat.reduceMul, Nat.reduceSub, Nat.reduceLT, Int.reduceToNat]))
      · rw [decide_eq_false hsK]
        rw [if_neg hsK] at hpv
        subst hpv
        (try (simp (disch := first | omega | (simp <;> omega) | fail) only [push_cast, ↓reduceIte, Nat.reduceEqDiff, Nat.reduceAdd, Nat.reduceMul, Nat.reduceSub, Nat.reduceLT, Int.reduceToNat, zF]))
    · have hsK : s ∉ K := fun h5 => hsN (key_node hIK.keys h5)
      rw [if_neg hsK] at hpv
      subst hpv
      have hz : chR (nodesK K) s = zF := by
        unfold chR
        rw [if_pos (fnd_neg.2 hsN)]
      rw [hz] at hf
      obtain ⟨⟨ss, sw⟩, ⟨es, ew⟩, lab⟩ := t
      (try (simp (disch := first | omega | (simp <;> omega) | fail) only [push_cast, ↓reduceIte, Nat.reduceEqDiff, Nat.reduceAdd, Nat.reduceMul, Nat.reduceSub, Nat.reduceLT, Int.reduceToNat]))
      refine hf.call ?_
      (try (simp (disch := first | omega | (simp <;> omega) | fail) only [push_cast, ↓reduceIte, Nat.reduceEqDiff, Nat.reduceAdd, Nat.reduceMul, Nat.reduceSub, Nat.reduceLT, Int.reduceToNat, zF]))
      done

theorem c_laws_pHas (o : Option (List Int)) (n : Int) (hm : n ∈ lI o) : Fn Tryz.prog 80 [eI o, .int .i64 n] (· = .bool true) := by
  refine Fn.of free_bool fun h => ?_
  refine enter (by kernel_rfl) e80 (by kernel_rfl) rfl fun hok => ?_
  simp only [r80, initEnv_2]
  have hlen := ok_eI (okV_0 hok)
  (try (simp (disch := first | omega | (simp <;> omega) | fail) only [push_cast, ↓reduceIte, Nat.reduceEqDiff, Nat.reduceAdd, Nat.reduceMul, Nat.reduceSub, Nat.reduceLT, Int.reduceToNat]))
  refine T_for (lI o).length (fun i e h' => Pins e [(1, .int .i64 n), (7, eI o), (8, .int .i64 (lI o).length), (9, .int .i64 i)] ∧ h' = h ∧ n ∉ (lI o).take i) ?_ ?_
  · (try (simp (disch := first | omega | (simp <;> omega) | fail) only [push_cast, ↓reduceIte, Nat.reduceEqDiff, Nat.reduceAdd, Nat.reduceMul, Nat.reduceSub, Nat.reduceLT, Int.reduceToNat]))
    all_goals (try simp)
  rintro i e h' hi ⟨hp, rfl, ha⟩
  refine T_pins hp fun e => ?_
  (try (simp (disch := first | omega | (simp <;> omega) | fail) only [push_cast, ↓reduceIte, Nat.reduceEqDiff, Nat.reduceAdd, Nat.reduceMul, Nat.reduceSub, Nat.reduceLT, Int.reduceToNat]))
  first | refine goC_split (fun hc => ?_) (fun hc => ?_) | refine cnd_split (fun hc => ?_) (fun hc => ?_)
  · (try (simp only [decide_eq_true_eq, decide_eq_false_iff_not, Bool.not_eq_true', Bool.not_eq_false', Bool.and_eq_true, Bool.or_eq_true, Int.not_lt, Int.not_le] at hc)); (try (simp (disch := first | omega | (simp <;> omega) | fail) only [push_cast, ↓reduceIte, Nat.reduceEqDiff, Nat.reduceAdd, Nat.reduceMul, Nat.reduceSub, Nat.reduceLT, Int.reduceToNat]))
    have hi2 : i < (lI o).length := by omega
    have htk : (lI o).take (i + 1) = (lI o).take i ++ [(lI o).getD i 0] := by
      rw [List.take_add_one]
      simp [hi2]
    by_cases hx : (lI o).getD i 0 = n
    · (try (simp (disch := first | omega | (simp <;> omega) | fail) only [push_cast, ↓reduceIte, Nat.reduceEqDiff, Nat.reduceAdd, Nat.reduceMul, Nat.reduceSub, Nat.reduceLT, Int.reduceToNat, hx]))
    · have hn : n ∉ (lI o).take (i + 1) := by
        rw [htk, List.mem_append, List.mem_singleton]
        exact fun h5 => h5.elim ha fun h7 => hx h7.symm
      (try (simp (disch := first | omega | (simp <;> omega) | fail) only [push_cast, ↓reduceIte, Nat.reduceEqDiff, Nat.reduceAdd, Nat.reduceMul, Nat.reduceSub, Nat.reduceLT, Int.reduceToNat, hx]))
      all_goals (try exact hn)
  · (try (simp only [decide_eq_true_eq, decide_eq_false_iff_not, Bool.not_eq_true', Bool.not_eq_false', Bool.and_eq_true, Bool.or_eq_true, Int.not_lt, Int.not_le] at hc)); (try (simp (disch := first | omega | (simp <;> omega) | fail) only [push_cast, ↓reduceIte, Nat.reduceEqDiff, Nat.reduceAdd, Nat.reduceMul, Nat.reduceSub, Nat.reduceLT, Int.reduceToNat]))
    have hie : i = (lI o).length := by omega
    subst hie
    rw [List.take_length] at ha
    exact absurd hm ha

theorem c_laws_pAllOnce (o : Option (List Int)) (n : Nat) (hl : (lI o).length = n) (hm : ∀ i : Nat, i < n → (i : Int) ∈ lI o) : Fn Tryz.prog 41 [eI o, .int .i64 n] (· = .bool true) := by
  refine Fn.of free_bool fun h => ?_
  refine enter (by kernel_rfl) e41 (by kernel_rfl) rfl fun hok => ?_
  simp only [r41, initEnv_2]
  have hlen := ok_eI (okV_0 hok)
  (try (simp (disch := first | omega | (simp <;> omega) | fail) only [push_cast, ↓reduceIte, Nat.reduceEqDiff, Nat.reduceAdd, Nat.reduceMul, Nat.reduceSub, Nat.reduceLT, Int.reduceToNat, hl]))
  refine T_for n (fun i e h' => Pins e [(0, eI o), (1, .int .i64 n), (5, .int .i64 i)] ∧ h' = h) ?_ ?_
  · (try (simp (disch := first | omega | (simp <;> omega) | fail) only [push_cast, ↓reduceIte, Nat.reduceEqDiff, Nat.reduceAdd, Nat.reduceMul, Nat.reduceSub, Nat.reduceLT, Int.reduceToNat]))
  rintro i e h' hi ⟨hp, rfl⟩
  refine T_pins hp fun e => ?_
  (try (simp (disch := first | omega | (simp <;> omega) | fail) only [push_cast, ↓reduceIte, Nat.reduceEqDiff, Nat.reduceAdd, Nat.reduceMul, Nat.reduceSub, Nat.reduceLT, Int.reduceToNat]))
  first | refine goC_split (fun hc => ?_) (fun hc => ?_) | refine cnd_split (fun hc => ?_) (fun hc => ?_)
  · (try (simp only [decide_eq_true_eq, decide_eq_false_iff_not, Bool.not_eq_true', Bool.not_eq_false', Bool.and_eq_true, Bool.or_eq_true, Int.not_lt, Int.not_le] at hc)); (try (simp (disch := first | omega | (simp <;> omega) | fail) only [push_cast, ↓reduceIte, Nat.reduceEqDiff, Nat.reduceAdd, Nat.reduceMul, Nat.reduceSub, Nat.reduceLT, Int.reduceToNat]))
    have hi2 : i < n := by omega
    (try (simp (disch := first | omega | (simp <;> omega) | fail) only [push_cast, ↓reduceIte, Nat.reduceEqDiff, Nat.reduceAdd, Nat.reduceMul, Nat.reduceSub, Nat.reduceLT, Int.reduceToNat]))
    refine (c_laws_pHas o i (hm i hi2)).call ?_
    (try (simp (disch := first | omega | (simp <;> omega) | fail) only [push_cast, ↓reduceIte, Nat.reduceEqDiff, Nat.reduceAdd, Nat.reduceMul, Nat.reduceSub, Nat.reduceLT, Int.reduceToNat]))
  · (try (simp only [decide_eq_true_eq, decide_eq_false_iff_not, Bool.not_eq_true', Bool.not_eq_false', Bool.and_eq_true, Bool.or_eq_true, Int.not_lt, Int.not_le] at hc)); (try (simp (disch := first | omega | (simp <;> omega) | fail) only [push_cast, ↓reduceIte, Nat.reduceEqDiff, Nat.reduceAdd, Nat.reduceMul, Nat.reduceSub, Nat.reduceLT, Int.reduceToNat]))

def noD (t : Tr) : AV := match trV t with
  | some K => .tup [.int .i64 (nodesK K).length, .bool true]
  | none => zF
def haD (t : Tr) (s : Str) : AV := match trV t with
  | some K => .tup [.bool (decide (s ∈ K)), .bool true]
  | none => .tup [.bool false, .bool false]

theorem c_impl_NodesOf (t : Tr) : Fn Tryz.prog 42 [eTr t] (· = noD t) := by
  refine Fn.of (by unfold noD; split <;> first | exact free_zF | exact free_tup (free_cons_ free_int (free_cons_ free_bool free_nil_))) fun h => ?_
  refine enter (by kernel_rfl) e42 (by kernel_rfl) rfl fun hok => ?_
  simp only [r42, initEnv_1]
  have hn := c_impl_Trie_nodes_o t
  have hnv : noV t = match trV t with | some K => eS (some (nodesK K)) | none => .nils := rfl
  have hfv : noD t = match trV t with | some K => .tup [.int .i64 (nodesK K).length, .bool true] | none => zF := rfl
  have hfc := @free_cTr t
  rw [hnv] at hn
  clear hnv
  generalize noD t = R at hfv
  have hcb0 : H.cells (h ++ [some (.cells (cTr t))]) h.length = some (cTr t) := by rw [cells_h0]; rfl
  obtain ⟨⟨ss, sw⟩, ⟨es, ew⟩, lab⟩ := t
  (try (simp (disch := first | omega | (simp <;> omega) | fail) only [push_cast, ↓reduceIte, Nat.reduceEqDiff, Nat.reduceAdd, Nat.reduceMul, Nat.reduceSub, Nat.reduceLT, Int.reduceToNat]))
  cases hv : trV ⟨⟨ss, sw⟩, ⟨es, ew⟩, lab⟩ with
  | none =>
    rw [hv] at hn hfv
    simp only at hn hfv
    subst hfv
    refine hn.goL (.adr hcb0 hfc .nil) fun x t' g hR hx how => ?_
    subst hR
    have hxn : x = .nils := how.atomOf rfl
    subst hxn
    (try (simp (disch := first | omega | (simp <;> omega) | fail) only [push_cast, ↓reduceIte, Nat.reduceEqDiff, Nat.reduceAdd, Nat.reduceMul, Nat.reduceSub, Nat.reduceLT, Int.reduceToNat, zF]))
  | some K =>
    rw [hv] at hn hfv
    simp only at hn hfv
    generalize nodesK K = N at *
    subst hfv
    refine hn.goL (.adr hcb0 hfc .nil) fun x t' g hR hx how => ?_
    subst hR
    obtain ⟨b, rfl, hb0, hcb⟩ := ow_strs how
    (try (simp (disch := first | omega | (simp <;> omega) | fail) only [push_cast, ↓reduceIte, Nat.reduceEqDiff, Nat.reduceAdd, Nat.reduceMul, Nat.reduceSub, Nat.reduceLT, Int.reduceToNat]))

theorem c_impl_TrieHas (t : Tr) (s : Str) : Fn Tryz.prog 43 [eTr t, .str s] (· = haD t s) := by
  refine Fn.of (by unfold haD; split <;> exact free_tup (free_cons_ free_bool (free_cons_ free_bool free_nil_))) fun h => ?_
  refine enter (by kernel_rfl) e43 (by kernel_rfl) rfl fun hok => ?_
  simp only [r43, initEnv_2]
  have hk := c_impl_Trie_keys_o t
  have hpv : haD t s = match trV t with | some K => .tup [.bool (decide (s ∈ K)), .bool true] | none => .tup [.bool false, .bool false] := rfl
  have hfc := @free_cTr t
  generalize haD t s = R at hpv
  have hcb0 : H.cells (h ++ [some (.cells (cTr t))]) h.length = some (cTr t) := by rw [cells_h0]; rfl
  have hg : ∀ v, KyR t (fun _ => true) v → ∃ o b, v = .tup [eS o, .bool b] ∧ ((b = true ∧ trV t = some (lS o)) ∨ (b = false ∧ trV t = none ∧ lS o = [])) := fun v => KyR_get
  obtain ⟨⟨ss, sw⟩, ⟨es, ew⟩, lab⟩ := t
  (try (simp (disch := first | omega | (simp <;> omega) | fail) only [push_cast, ↓reduceIte, Nat.reduceEqDiff, Nat.reduceAdd, Nat.reduceMul, Nat.reduceSub, Nat.reduceLT, Int.reduceToNat]))
  refine hk.goL (.adr hcb0 hfc .nil) fun x t' g hR hx how => ?_
  obtain ⟨o, b, rfl, hob⟩ := hg _ hR
  obtain ⟨y, rfl, hy⟩ := ow_tup2 rfl how
  have hRv : R = .tup [.bool (decide (s ∈ lS o)), .bool b] := by
    rw [hpv]
    rcases hob with ⟨rfl, h2⟩ | ⟨rfl, h2, h3⟩
    · rw [h2]
    · rw [h2, h3]
      simp
  subst hRv
  (try (simp (disch := first | omega | (simp <;> omega) | fail) only [push_cast, ↓reduceIte, Nat.reduceEqDiff, Nat.reduceAdd, Nat.reduceMul, Nat.reduceSub, Nat.reduceLT, Int.reduceToNat]))
  refine (c_slices_Contains_string o s).lendL (.cons hy.vw0 (.free free_str .nil)) own_bool ?_
  (try (simp (disch := first | omega | (simp <;> omega) | fail) only [push_cast, ↓reduceIte, Nat.reduceEqDiff, Nat.reduceAdd, Nat.reduceMul, Nat.reduceSub, Nat.reduceLT, Int.reduceToNat]))

def decV (l : Str) : Nat := l.foldl (fun a c => 10 * a + (c.toNat - 48)) 0
theorem decV_dec : ∀ n : Nat, decV (Lib.decDigits n) = n := fun n => by
  induction n using Nat.strongRecOn with
  | _ n ih =>
    rw [dec_rec]
    by_cases hn : n < 10
    · rw [if_pos hn]
      simp [decV]
      omega
    · rw [if_neg hn]
      unfold decV at ih ⊢
      rw [List.foldl_append, ih (n / 10) (by omega)]
      simp
      omega

def beforeT (s : Str) : Str := s.takeWhile fun c => c != 126
def openOk (s t : Str) : Bool := plainV t && decide (sealT t = s)
def openV (s : Str) : AV := if openOk s (beforeT s) then .tup [.str (beforeT s), .bool true] else .tup [.str [], .bool false]
theorem free_openV {s : Str} : Free (openV s) := by
  unfold openV
  split <;> exact free_tup (free_cons_ free_str (free_cons_ free_bool free_nil_))
theorem plain_no126 {t : Str} (h : plain t = true) : ∀ c ∈ t, (c != 126) = true := by
  intro c hc
  have := List.all_eq_true.1 h c hc
  simp only [okCh, Bool.and_eq_true, decide_eq_true_eq] at this
  simp only [bne_iff_ne, ne_eq]
  intro he
  subst he
  simp at this
theorem plainV_plain {t : Str} (h : plainV t = true) : plain t = true := by
  simp only [plainV, Bool.and_eq_true] at h
  exact h.1
theorem before_app {t r : Str} (h : ∀ c ∈ t, (c != 126) = true) : beforeT (t ++ 126 :: r) = t := by
  unfold beforeT
  rw [List.takeWhile_append_of_pos h]
  simp
theorem sealT_len (t : Str) : t.length < (sealT t).length := by
  unfold sealT
  simp
theorem dec_no126 {n : Nat} : (126 : UInt8) ∉ Lib.decDigits n := fun h => by
  have := dec_plain n 126 h
  simp at this
theorem before_no : ∀ {s : Str}, (126 : UInt8) ∉ s → beforeT s = s
  | [], _ => rfl
  | c :: s, h => by
    simp only [List.mem_cons, not_or] at h
    have ih := before_no h.2
    have hc : (c != 126) = true := by simpa using Ne.symm h.1
    unfold beforeT at ih ⊢
    rw [List.takeWhile_cons, if_pos hc, ih]
theorem open_none {s : Str} (h : (126 : UInt8) ∉ s) : openOk s (beforeT s) = false := by
  rw [before_no h]
  unfold openOk
  have := sealT_len s
  have hne : sealT s ≠ s := fun he => by
    rw [he] at this
    omega
  simp [hne]
theorem split_at {s : Str} {a : Nat} (ha : a < s.length) (hc : s.getD a 0 = 126) : s = s.take a ++ 126 :: s.drop (a + 1) := by
  have h1 : s[a] = 126 := by simpa [ha] using hc
  conv => lhs; rw [← List.take_append_drop a s, List.drop_eq_getElem_cons ha, h1]
/-- The last mark serves as well as the first. -/
theorem open_last {s : Str} {a : Nat} (ha : a < s.length) (hc : s.getD a 0 = 126) (hd : (126 : UInt8) ∉ s.drop (a + 1)) : openOk s (s.take a) = openOk s (beforeT s) ∧ (openOk s (s.take a) = true → s.take a = beforeT s) := by
  have hs := split_at ha hc
  by_cases hp : plainV (s.take a) = true
  · have hb : beforeT s = s.take a := by
      conv => lhs; rw [hs]
      exact before_app (plain_no126 (plainV_plain hp))
    rw [hb]
    exact ⟨rfl, fun _ => rfl⟩
  · have h1 : openOk s (s.take a) = false := by
      unfold openOk
      rw [Bool.not_eq_true] at hp
      rw [hp]
      rfl
    refine ⟨?_, fun h => by rw [h1] at h; cases h⟩
    rw [h1]
    cases h2 : openOk s (beforeT s) with
    | false => rfl
    | true =>
      exfalso
      simp only [openOk, Bool.and_eq_true, decide_eq_true_eq] at h2
      obtain ⟨p1, p2⟩ := h2
      generalize beforeT s = t at p1 p2
      unfold sealT at p2
      have hget : (t ++ 126 :: Lib.decDigits (chk t t.length).toNat)[a]? = some 126 := by
        rw [p2]
        simpa [ha] using hc
      rcases Nat.lt_trichotomy a t.length with h5 | h5 | h5
      · rw [List.getElem?_append_left h5] at hget
        have := plain_no126 (plainV_plain p1) 126 (List.mem_of_getElem? hget)
        simp at this
      · subst h5
        refine hp ?_
        rw [← p2, List.take_left]
        exact p1
      · rw [List.getElem?_append_right (by omega), show a - t.length = (a - t.length - 1) + 1 by omega, List.getElem?_cons_succ] at hget
        exact dec_no126 (List.mem_of_getElem? hget)

theorem dec_inj {n m : Nat} (h : Lib.decDigits n = Lib.decDigits m) : n = m := by
  rw [← decV_dec n, h, decV_dec]
/-- The weighted sum. -/
def wsum (s : Str) : Nat → Int
  | 0 => 0
  | i + 1 => wsum s i + ((i : Int) + 1) * ((s.getD i 0).toNat : Int)
theorem chk_wsum (s : Str) : ∀ i, chk s i = wsum s i % 65521
  | 0 => by simp [chk, wsum]
  | i + 1 => by
    unfold chk wsum
    rw [chk_wsum s i, Int.emod_add_emod]
theorem getD_set {s : Str} {i j : Nat} {o : UInt8} (hi : i < s.length) : (s.set i o).getD j 0 = if j = i then o else s.getD j 0 := by
  simp only [List.getD_eq_getElem?_getD, List.getElem?_set]
  by_cases hj : i = j
  · subst hj
    simp [hi]
  · rw [if_neg hj, if_neg (Ne.symm hj)]
theorem wsum_set {s : Str} {i : Nat} {o : UInt8} (hi : i < s.length) : ∀ n, wsum (s.set i o) n = wsum s n + if i < n then ((i : Int) + 1) * ((o.toNat : Int) - ((s.getD i 0).toNat : Int)) else 0
  | 0 => by simp [wsum]
  | n + 1 => by
    unfold wsum
    rw [wsum_set hi n, getD_set hi]
    by_cases hn : n = i
    · subst hn
      rw [if_neg (by omega), if_pos rfl, if_pos (by omega), Int.mul_sub]
      omega
    · rw [if_neg hn]
      by_cases h5 : i < n
      · rw [if_pos h5, if_pos (show i < n + 1 by omega)]
        omega
      · simp only [if_neg h5, if_neg (show ¬ i < n + 1 by omega), Int.add_zero]
theorem cop : ∀ d, d < 94 → d ≠ 0 → Nat.gcd 65521 d = 1 := by decide
theorem chk_ne {s : Str} {i : Nat} {o : UInt8} (hi : i < s.length) (hl : s.length ≤ 6000) (h1 : okCh (s.getD i 0) = true) (h2 : okCh o = true) (hne : o ≠ s.getD i 0) : chk (s.set i o) s.length ≠ chk s s.length := by
  simp only [okCh, Bool.and_eq_true, decide_eq_true_eq] at h1 h2
  rw [chk_wsum, chk_wsum, wsum_set hi, if_pos hi]
  generalize wsum s s.length = t
  intro h
  have hne2 : o.toNat ≠ (s.getD i 0).toNat := fun he => hne (UInt8.toNat_inj.1 he)
  generalize (s.getD i 0).toNat = a at h1 hne2 h
  generalize o.toNat = b at h2 hne2 h
  have hd : (65521 : Int) ∣ ((i : Int) + 1) * ((b : Int) - (a : Int)) := by
    have := Int.emod_emod_of_dvd (t + ((i : Int) + 1) * ((b : Int) - (a : Int))) (Int.dvd_refl 65521)
    have h3 : (t + ((i : Int) + 1) * ((b : Int) - (a : Int)) - t) % 65521 = 0 := by
      rw [Int.sub_emod, h, Int.sub_self]
      rfl
    rw [show t + ((i : Int) + 1) * ((b : Int) - (a : Int)) - t = ((i : Int) + 1) * ((b : Int) - (a : Int)) by omega] at h3
    exact Int.dvd_of_emod_eq_zero h3
  have hn : 65521 ∣ (i + 1) * ((b : Int) - (a : Int)).natAbs := by
    have := Int.natAbs_dvd_natAbs.2 hd
    rw [Int.natAbs_mul] at this
    have e : ((i : Int) + 1).natAbs = i + 1 := by omega
    rw [e] at this
    exact this
  have hc := cop ((b : Int) - (a : Int)).natAbs (by omega) (by omega)
  have := Nat.Coprime.dvd_of_dvd_mul_right hc hn
  have := Nat.le_of_dvd (by omega) this
  omega
theorem open_sealed {s : Str} (hp : plainV s = true) : openOk (sealT s) (beforeT (sealT s)) = true ∧ beforeT (sealT s) = s := by
  have hb : beforeT (sealT s) = s := by
    unfold sealT
    exact before_app (plain_no126 (plainV_plain hp))
  rw [hb]
  unfold openOk
  simp [hp]
theorem seal_damage {s : Str} {i : Nat} {o : UInt8} (hp : plainV s = true) (hi : i < (sealT s).length) : openOk ((sealT s).set i o) (beforeT ((sealT s).set i o)) = decide (o = (sealT s).getD i 0) := by
  by_cases ho : o = (sealT s).getD i 0
  · have : (sealT s).set i o = sealT s := by
      rw [ho]
      refine List.ext_getElem? fun j => ?_
      rw [List.getElem?_set]
      by_cases hj : i = j
      · subst hj
        simp [hi]
      · rw [if_neg hj]
    rw [this, (open_sealed hp).1]
    simp [ho]
  · rw [decide_eq_false ho]
    have hpl := plainV_plain hp
    have hl : s.length ≤ 6000 := by
      simp only [plainV, Bool.and_eq_true, decide_eq_true_eq] at hp
      omega
    have h126 := plain_no126 hpl
    cases hq : openOk ((sealT s).set i o) (beforeT ((sealT s).set i o)) with
    | false => rfl
    | true =>
      exfalso
      have hq2 := hq
      simp only [openOk, Bool.and_eq_true, decide_eq_true_eq] at hq2
      obtain ⟨q1, q2⟩ := hq2
      rcases Nat.lt_trichotomy i s.length with h5 | h5 | h5
      · have hset : (sealT s).set i o = s.set i o ++ 126 :: Lib.decDigits (chk s s.length).toNat := by
          unfold sealT
          rw [List.set_append_left _ _ h5]
        have hgi : (sealT s).getD i 0 = s.getD i 0 := by
          unfold sealT
          simp [List.getElem?_append_left h5]
        rw [hgi] at ho
        by_cases ho6 : o = 126
        · have hcut : s.set i o = s.take i ++ 126 :: s.drop (i + 1) := by
            rw [List.set_eq_take_append_cons_drop, if_pos h5, ho6]
          have hb : beforeT ((sealT s).set i o) = s.take i := by
            rw [hset, hcut, List.append_assoc]
            exact before_app fun c hc => h126 c (List.mem_of_mem_take hc)
          rw [hb, hset, hcut] at q2
          unfold sealT at q2
          rw [List.append_assoc] at q2
          have q3 := List.append_cancel_left q2
          simp only [List.cons_append, List.cons.injEq, true_and] at q3
          have : (126 : UInt8) ∈ Lib.decDigits (chk (s.take i) (s.take i).length).toNat := by
            rw [q3]
            simp
          exact dec_no126 this
        · have hall : ∀ c ∈ s.set i o, (c != 126) = true := by
            intro c hc
            rcases List.mem_or_eq_of_mem_set hc with h6 | h6
            · exact h126 c h6
            · subst h6
              simpa using ho6
          have hb : beforeT ((sealT s).set i o) = s.set i o := by
            rw [hset]
            exact before_app hall
          rw [hb, hset] at q2
          rw [hb] at q1
          unfold sealT at q2
          have q3 := List.append_cancel_left q2
          simp only [List.cons.injEq, true_and] at q3
          have q4 := dec_inj q3
          rw [List.length_set] at q4
          obtain ⟨a1, _⟩ := chk_bd (s.set i o) s.length
          obtain ⟨b1, _⟩ := chk_bd s s.length
          refine chk_ne h5 hl (List.all_eq_true.1 hpl _ (by simp [h5])) (List.all_eq_true.1 (plainV_plain q1) o ?_) ho (by omega)
          exact List.mem_of_getElem? (i := i) (by simp [h5])
      · have hset : (sealT s).set i o = s ++ o :: Lib.decDigits (chk s s.length).toNat := by
          unfold sealT
          rw [h5]
          exact set_last
        have hgi : (sealT s).getD i 0 = 126 := by
          unfold sealT
          rw [h5]
          simp
        rw [hgi] at ho
        have hno : (126 : UInt8) ∉ (sealT s).set i o := by
          rw [hset]
          intro h6
          rcases List.mem_append.1 h6 with h6 | h6
          · have := h126 126 h6
            simp at this
          · rcases List.mem_cons.1 h6 with h6 | h6
            · exact ho h6.symm
            · exact dec_no126 h6
        rw [open_none hno] at hq
        cases hq
      · have hset : (sealT s).set i o = s ++ 126 :: (Lib.decDigits (chk s s.length).toNat).set (i - s.length - 1) o := by
          unfold sealT
          rw [List.set_append_right _ _ (by omega), show i - s.length = (i - s.length - 1) + 1 by omega, List.set_cons_succ]
          rfl
        have hb : beforeT ((sealT s).set i o) = s := by
          rw [hset]
          exact before_app h126
        rw [hb] at q2
        refine ho ?_
        have : ((sealT s).set i o).getD i 0 = o := by simp [hi]
        rw [← q2] at this
        exact this.symm

theorem fit_bytes {zs : List AV} (h : Fit (.sl (.int .u8) 1) zs) : ∃ a : Option (List UInt8), zs = [eU a] := by
  have key : ∀ xs, Fit (.int .u8) xs → ∃ c : UInt8, xs = [AV.int .u8 (c.toNat : Int)] := fun xs hx => by
    cases hx with
    | @int _ n h1 h2 =>
      have h1' : 0 ≤ n := by simpa [IntKind.min, IntKind.signed, IntKind.bits] using h1
      have h2' : n ≤ 255 := by simpa [IntKind.max, IntKind.signed, IntKind.bits] using h2
      refine ⟨UInt8.ofNat n.toNat, ?_⟩
      have : ((UInt8.ofNat n.toNat).toNat : Int) = n := by
        simp
        omega
      rw [this]
  rcases fit_rows (f := fun c : UInt8 => [AV.int .u8 (c.toNat : Int)]) key h with rfl | ⟨l, rfl⟩
  · exact ⟨none, rfl⟩
  · exact ⟨some l, by rw [flatMap_one]; rfl⟩

def pfB (s x : Str) : Bool := decide (s.length ≤ x.length) && decide (x.take s.length = s)

def mkD : Nat → Int → Str → Str
  | 0, _, out => out
  | f + 1, k, out => if k ≤ 0 then out else mkD f (k / 10) (UInt8.ofNat (48 + k % 10).toNat :: out)
theorem mkD_done {f : Nat} {k : Int} {out : Str} (h : k ≤ 0) : mkD f k out = out := by
  cases f with
  | zero => rfl
  | succ f => rw [mkD, if_pos h]
theorem mkD_next {f : Nat} {k : Int} {out : Str} (h : 0 < k) : mkD (f + 1) k out = mkD f (k / 10) (UInt8.ofNat (48 + k % 10).toNat :: out) := by
  rw [mkD, if_neg (by omega)]
/-- A mark. -/
def mkT (k : Int) : Str := if k ≤ 0 then [109, 48] else 109 :: mkD 20 k []
def marks (k : Int) (n : Nat) : List Str := (List.range n).map fun i : Nat => mkT (k + (i : Int))
theorem marks_len {k : Int} {n : Nat} : (marks k n).length = n := by simp [marks]
theorem marks_succ {k : Int} {n : Nat} : marks k (n + 1) = marks k n ++ [mkT (k + (n : Int))] := by simp [marks, List.range_succ]
theorem marks_get {k : Int} {n i : Nat} (hi : i < n) : (marks k n).getD i [] = mkT (k + (i : Int)) := by simp [marks, hi]
theorem mk_set {k : Int} {l : List Str} {i : Nat} (hi : i < l.length) : ((marks k i ++ l.drop i).map AV.str).set i (.str (mkT (k + (i : Int)))) = (marks k (i + 1) ++ l.drop (i + 1)).map AV.str := by
  rw [List.drop_eq_getElem_cons hi, marks_succ]
  simp only [List.map_append, List.map_cons, List.append_assoc, List.map_nil, List.cons_append, List.nil_append]
  have := set_last (p := (marks k i).map AV.str) (r := (l.drop (i + 1)).map AV.str) (x := .str l[i]) (y := .str (mkT (k + (i : Int))))
  rw [List.length_map, marks_len] at this
  exact this
def MkI (h h' : H) (b : Nat) (L : List Str) : Prop := h'.length = h.length ∧ (∀ b', b' ≠ b → h'[b']? = h[b']?) ∧ h'.cells b = some (L.map .str)
theorem MkI.put {h h' : H} {b : Nat} {L L2 : List Str} {cs : List AV} (hm : MkI h h' b L) (hc : cs = L2.map .str) : MkI h (wr h' b cs) b L2 := by
  obtain ⟨h1, h2, h3⟩ := hm
  subst hc
  refine ⟨by simp [wr, h1], fun b' hb' => ?_, ?_⟩
  · unfold wr
    rw [List.getElem?_set_ne (Ne.symm hb')]
    exact h2 b' hb'
  · rw [cells_eq]
    unfold wr
    rw [List.getElem?_set_self (cells_lt h3)]
    rfl

def cpTr (t : Tr) : Tr := ⟨cpB t.sh, cpB t.en, t.lab⟩

theorem KyR_same {t : Tr} {p : Str → Bool} {o o' : Option (List Str)} {b b' : Bool} (h : KyR t p (.tup [eS o, .bool b])) (h' : KyR t p (.tup [eS o', .bool b'])) : b' = b ∧ lS o' = lS o := by
  have inj : ∀ {o1 o2 : Option (List Str)}, eS o1 = eS o2 → lS o1 = lS o2 := fun {o1 o2} he => by
    cases o1 <;> cases o2
    · rfl
    · cases he
    · cases he
    · rename_i a c
      injection he with _ he _
      exact List.map_inj_right (fun x y hxy => by injection hxy) |>.1 he
  obtain ⟨o1, b1, e1, h1⟩ := h
  obtain ⟨o2, b2, e2, h2⟩ := h'
  injection e1 with e1
  injection e1 with e1 e3
  injection e3 with e3 _
  injection e3 with e3
  injection e2 with e2
  injection e2 with e2 e4
  injection e4 with e4 _
  injection e4 with e4
  subst e3 e4
  have i1 := inj e1
  have i2 := inj e2
  rw [i1, i2]
  rcases h1 with ⟨rfl, K, k1, k2⟩ | ⟨rfl, k1, k2⟩ <;> rcases h2 with ⟨rfl, K2, k3, k4⟩ | ⟨rfl, k3, k4⟩
  · rw [k1] at k3
    injection k3 with k3
    subst k3
    exact ⟨rfl, k4.trans k2.symm⟩
  · rw [k1] at k3
    cases k3
  · rw [k1] at k3
    cases k3
  · exact ⟨rfl, k4.trans k2.symm⟩
theorem KyR_len {t : Tr} {p : Str → Bool} {o : Option (List Str)} {b : Bool} (h : KyR t p (.tup [eS o, .bool b])) : (lS o).length ≤ 40 := by
  have inj : ∀ {o1 o2 : Option (List Str)}, eS o1 = eS o2 → (lS o1).length = (lS o2).length := fun {o1 o2} he => by
    cases o1 <;> cases o2
    · rfl
    · cases he
    · cases he
    · rename_i a c
      injection he
  obtain ⟨o1, b1, e1, h1⟩ := h
  injection e1 with e1
  injection e1 with e1 _
  rw [inj e1]
  rcases h1 with ⟨_, K, k1, k2⟩ | ⟨_, _, k2⟩
  · rw [k2]
    exact Nat.le_trans (List.length_filter_le _ _) (trV_ok k1).2
  · rw [k2]
    simp
theorem eS_S1 {h : H} {x : AV} {o : Option (List Str)} {G : Nat → Prop} (ho : Ow h [x] [eS o] G) : ∃ B, S1 h 1 x (lS o).length ((lS o).map .str) B ∧ ∀ c ∈ B, G c := by
  rcases eS_ow ho with ⟨rfl, rfl⟩ | ⟨L, b, rfl, rfl, h3, h4⟩
  · exact ⟨[], S1.nil, by simp⟩
  · exact ⟨[b], ⟨by simp, .inr ⟨b, rfl, rfl, h4⟩⟩, by simpa using h3⟩

theorem src_eS2 {h : H} {a : Option (List Str)} : srcCells h false 1 (eS a) = some ((lS a).map .str, (lS a).length) := by
  cases a with
  | none => rfl
  | some l => rw [eS, src_ro (by simp), Nat.mul_one, List.take_of_length_le (by simp)]; rfl
theorem S1.vwI0 {h : H} {n0 n : Nat} {v : AV} {l : List Int} {B : List Nat} (hs : S1 h 1 v n (l.map (.int .i64)) B) (hb : ∀ b ∈ B, n0 ≤ b) : ∃ o, Vw h n0 v (eI o) ∧ lI o = l := by
  have hn : n = l.length := by have := hs.1; simp at this; omega
  subst hn
  rcases hs.2 with ⟨rfl, h0, rfl⟩ | ⟨b, rfl, rfl, hc⟩
  · exact ⟨none, .free free_nils, (List.eq_nil_of_length_eq_zero h0).symm⟩
  · exact ⟨some l, vw_all (hb b (by simp)) hc (by simp) (one_map fun _ => rfl) (free_map_ fun _ => free_int), rfl⟩
def sh_FnTrieKeepsItsKeys : List Sh := [.sl (.int .u8) 1, .sl (.int .u8) 1]
set_option maxHeartbeats 4000000 in
theorem law_FnTrieKeepsItsKeys (ys : List AV) (hy : ArgsFit sh_FnTrieKeepsItsKeys ys) : Call Tryz.prog 10 ys [] Nowhere (fun x _ => x = .bool true) := by
  obtain ⟨x1, y1, rfl, h1, hy⟩ := argsFit_cons hy
  obtain ⟨x2, y2, rfl, h2, hy⟩ := argsFit_cons hy
  obtain rfl := argsFit_nil hy
  obtain ⟨code, hce⟩ := fit_bytes h1
  obtain ⟨more, hme⟩ := fit_bytes h2
  subst hce hme
  refine (?_ : ∀ h, Call Tryz.prog 10 [eU code, eU more] h Nowhere (fun x _ => x = .bool true)) []
  intro h
  refine enter (by kernel_rfl) e10 (by kernel_rfl) rfl fun hok => ?_
  simp only [r10, initEnv_2]
  have hl1 := ok_eU (okV_0 hok)
  have hl2 := ok_eU (okV_1 hok)
  generalize hT : RCode.seq (.reg (⟨some 58, .v (.mov (.t 6)), none⟩ :: _)) _ = TL
  (try (simp (disch := first | omega | (simp <;> omega) | fail) only [push_cast, ↓reduceIte, Nat.reduceEqDiff, Nat.reduceAdd, Nat.reduceMul, Nat.reduceSub, Nat.reduceLT, Int.reduceToNat]))
  refine (c_laws_big code more hl1).call ?_
  cases hb : (decide (1048576 < ((lU code).length : Int)) || decide (1048576 - ((lU code).length : Int) < ((lU more).length : Int)))
  · simp only [Bool.or_eq_false_iff, decide_eq_false_iff_not] at hb
    (try (simp (disch := first | omega | (simp <;> omega) | fail) only [push_cast, ↓reduceIte, Nat.reduceEqDiff, Nat.reduceAdd, Nat.reduceMul, Nat.reduceSub, Nat.reduceLT, Int.reduceToNat]))
    refine (c_spec_DrawTrieKeys code).use fun x hx => ?_
    obtain ⟨t, rfl⟩ := hx
    have hI := fun K => @trV_some t K
    have hk1 := (c_impl_TrieKeys_o t).fn
    have hk2 := c_spec_TrieKeys t
    have htx := c_impl_TrieIndex t
    have hno := c_impl_NodesOf t
    have hps := fun T => c_laws_pSameTrie T t
    have hnv : noD t = match trV t with | some K => .tup [.int .i64 (nodesK K).length, .bool true] | none => zF := rfl
    have htv : ∀ s, txV t s = match trV t with | some K => if s ∈ K then .tup [.int .i64 (fndI ((nodesK K).filter fun x => decide (x ∈ K)) s), .bool true] else zF | none => zF := fun _ => rfl
    have hgt : ∀ v, KyR t (fun _ => true) v → ∃ o b, v = .tup [eS o, .bool b] ∧ ((b = true ∧ trV t = some (lS o)) ∨ (b = false ∧ trV t = none ∧ lS o = [])) := fun v => KyR_get
    rw [hnv] at hno
    clear hnv
    obtain ⟨⟨ss, sw⟩, ⟨es, ew⟩, lab⟩ := t
    (try (simp (disch := first | omega | (simp <;> omega) | fail) only [push_cast, ↓reduceIte, Nat.reduceEqDiff, Nat.reduceAdd, Nat.reduceMul, Nat.reduceSub, Nat.reduceLT, Int.reduceToNat]))
    refine hk1.use fun v hv => ?_
    obtain ⟨o, b, rfl, hob⟩ := hgt _ hv
    (try (simp (disch := first | omega | (simp <;> omega) | fail) only [push_cast, ↓reduceIte, Nat.reduceEqDiff, Nat.reduceAdd, Nat.reduceMul, Nat.reduceSub, Nat.reduceLT, Int.reduceToNat]))
    refine hk2.use fun v2 hv2 => ?_
    obtain ⟨o2, b2, rfl, hob2⟩ := hgt _ hv2
    obtain ⟨hbb, hll⟩ := KyR_same hv hv2
    subst hbb
    (try (simp (disch := first | omega | (simp <;> omega) | fail) only [push_cast, ↓reduceIte, Nat.reduceEqDiff, Nat.reduceAdd, Nat.reduceMul, Nat.reduceSub, Nat.reduceLT, Int.reduceToNat]))
    have hpt := c_laws_pSameTexts o o2 hll.symm
    clear hv hv2 hob2 hgt
    cases b2
    · (try (simp (disch := first | omega | (simp <;> omega) | fail) only [push_cast, ↓reduceIte, Nat.reduceEqDiff, Nat.reduceAdd, Nat.reduceMul, Nat.reduceSub, Nat.reduceLT, Int.reduceToNat]))
      refine hpt.call ?_
      (try (simp (disch := first | omega | (simp <;> omega) | fail) only [push_cast, ↓reduceIte, Nat.reduceEqDiff, Nat.reduceAdd, Nat.reduceMul, Nat.reduceSub, Nat.reduceLT, Int.reduceToNat]))
    (try (simp (disch := first | omega | (simp <;> omega) | fail) only [push_cast, ↓reduceIte, Nat.reduceEqDiff, Nat.reduceAdd, Nat.reduceMul, Nat.reduceSub, Nat.reduceLT, Int.reduceToNat]))
    refine hpt.call ?_
    (try (simp (disch := first | omega | (simp <;> omega) | fail) only [push_cast, ↓reduceIte, Nat.reduceEqDiff, Nat.reduceAdd, Nat.reduceMul, Nat.reduceSub, Nat.reduceLT, Int.reduceToNat]))
    rcases hob with ⟨_, hTV⟩ | ⟨h5, _⟩
    · rw [← hT]
      clear hT hpt hll
      rw [hTV] at hno
      simp only at hno
      have htx2 : ∀ s, s ∈ lS o → Fn Tryz.prog 20 [eTr ⟨⟨ss, sw⟩, ⟨es, ew⟩, lab⟩, .str s] (· = .tup [.int .i64 (fndI ((nodesK (lS o)).filter fun x => decide (x ∈ lS o)) s), .bool true]) := fun s hs => by
        have := htx s
        rw [htv s, hTV] at this
        simp only at this
        rw [if_pos hs] at this
        exact this
      have hIK := hI _ hTV
      have hKo := hIK.keys
      have hsame := hIK.same
      have hao := fun j => @all_once (lS o) hKo j
      have hfl := fun s => @fnd_lo ((nodesK (lS o)).filter fun x => decide (x ∈ lS o)) s
      have hfh := fun s => @fnd_hi ((nodesK (lS o)).filter fun x => decide (x ∈ lS o)) s
      have hKl := (okKeys_all hKo).2.2
      have hNl := nodesK_cap hKl
      have hfll : ((nodesK (lS o)).filter fun x => decide (x ∈ lS o)).length ≤ 481 := Nat.le_trans (List.length_filter_le _ _) hNl
      clear hI htx htv hTV hIK
      generalize fndI ((nodesK (lS o)).filter fun x => decide (x ∈ lS o)) = fx at *
      have hbt := (c_impl_BuildTrie_o o hKo).fn
      have hps2 := hps (tK (lS o))
      rw [hsame] at hps2
      (try (simp (disch := first | omega | (simp <;> omega) | fail) only [push_cast, ↓reduceIte, Nat.reduceEqDiff, Nat.reduceAdd, Nat.reduceMul, Nat.reduceSub, Nat.reduceLT, Int.reduceToNat]))
      refine hbt.call ?_
      generalize tK (lS o) = T at *
      obtain ⟨⟨ts, tw⟩, ⟨us, uw⟩, tl⟩ := T
      (try (simp (disch := first | omega | (simp <;> omega) | fail) only [push_cast, ↓reduceIte, Nat.reduceEqDiff, Nat.reduceAdd, Nat.reduceMul, Nat.reduceSub, Nat.reduceLT, Int.reduceToNat]))
      refine hps2.call ?_
      (try (simp (disch := first | omega | (simp <;> omega) | fail) only [push_cast, ↓reduceIte, Nat.reduceEqDiff, Nat.reduceAdd, Nat.reduceMul, Nat.reduceSub, Nat.reduceLT, Int.reduceToNat]))
      have hgl0 : GsI (AV.int .i64) (h.length + 2) (h ++ [some (.cells [.int .i64 ss, eI sw, .int .i64 es, eI ew, .str lab]), some (.cells [.int .i64 ts, eI tw, .int .i64 us, eI uw, .str tl])]) .nils [] := GsI.nil (by simp)
      have hbx0 : H.cells (h ++ [some (.cells [.int .i64 ss, eI sw, .int .i64 es, eI ew, .str lab]), some (.cells [.int .i64 ts, eI tw, .int .i64 us, eI uw, .str tl])]) h.length = some [.int .i64 ss, eI sw, .int .i64 es, eI ew, .str lab] := by rw [cells_h0]; rfl
      generalize hAft : RCode.seq (.seq (.reg (⟨some 94, .v (.mov (.t 6)), none⟩ :: _)) _) _ = AF
      refine T_for (lS o).length (fun k e h' => ∃ v, Pins e [(1, eU more), (5, .adr h.length 0), (6, eS o), (12, v), (70, eS o), (71, .int .i64 (lS o).length), (72, .int .i64 k)] ∧ GsI (AV.int .i64) (h.length + 2) h' v (((lS o).take k).map fx) ∧ H.cells h' h.length = some [.int .i64 ss, eI sw, .int .i64 es, eI ew, .str lab]) ?_ ?_
      · refine ⟨.nils, ?_⟩
        (try (simp (disch := first | omega | (simp <;> omega) | fail) only [push_cast, ↓reduceIte, Nat.reduceEqDiff, Nat.reduceAdd, Nat.reduceMul, Nat.reduceSub, Nat.reduceLT, Int.reduceToNat]))
        all_goals (try exact hgl0)
        all_goals (try exact ⟨hgl0, hbx0⟩)
        done
      rintro k e h' hk ⟨v, hp, hs, hbx⟩
      refine T_pins hp fun e => ?_
      (try (simp (disch := first | omega | (simp <;> omega) | fail) only [push_cast, ↓reduceIte, Nat.reduceEqDiff, Nat.reduceAdd, Nat.reduceMul, Nat.reduceSub, Nat.reduceLT, Int.reduceToNat]))
      first | refine goC_split (fun hc => ?_) (fun hc => ?_) | refine cnd_split (fun hc => ?_) (fun hc => ?_)
      · (try (simp only [decide_eq_true_eq, decide_eq_false_iff_not, Bool.not_eq_true', Bool.not_eq_false', Bool.and_eq_true, Bool.or_eq_true, Int.not_lt, Int.not_le] at hc)); (try (simp (disch := first | omega | (simp <;> omega) | fail) only [push_cast, ↓reduceIte, Nat.reduceEqDiff, Nat.reduceAdd, Nat.reduceMul, Nat.reduceSub, Nat.reduceLT, Int.reduceToNat]))
        have hk2 : k < (lS o).length := by omega
        obtain ⟨s, hsd⟩ : ∃ s, s = (lS o).getD k [] := ⟨_, rfl⟩
        have hsK : s ∈ lS o := by rw [hsd]; simp [hk2]
        have hmp := take_next_map (f := fx) (d := []) hk2
        rw [← hsd] at hmp
        have hll2 : (((lS o).take k).map fx).length ≤ 40 := by rw [List.length_map, List.length_take]; omega
        (try (simp (disch := first | omega | (simp <;> omega) | fail) only [push_cast, ↓reduceIte, Nat.reduceEqDiff, Nat.reduceAdd, Nat.reduceMul, Nat.reduceSub, Nat.reduceLT, Int.reduceToNat, ← hsd, hbx]))
        refine (htx2 s hsK).call ?_
        (try (simp (disch := first | omega | (simp <;> omega) | fail) only [push_cast, ↓reduceIte, Nat.reduceEqDiff, Nat.reduceAdd, Nat.reduceMul, Nat.reduceSub, Nat.reduceLT, Int.reduceToNat]))
        refine hs.app (by_ := 8) (fun c hc => by first | exact Or.inr (by omega) | exact ⟨Or.inr (by omega), by omega⟩) (by omega) (by decide) fun v' h'' q1 q2 q3 => ?_
        rw [← hmp] at q1
        have hbx2 := cells_keep (q2 h.length (by omega)) hbx
        (try (simp (disch := first | omega | (simp <;> omega) | fail) only [push_cast, ↓reduceIte, Nat.reduceEqDiff, Nat.reduceAdd, Nat.reduceMul, Nat.reduceSub, Nat.reduceLT, Int.reduceToNat]))
        all_goals (try exact ⟨_, rfl, q1, hbx2⟩)
        done
      · (try (simp only [decide_eq_true_eq, decide_eq_false_iff_not, Bool.not_eq_true', Bool.not_eq_false', Bool.and_eq_true, Bool.or_eq_true, Int.not_lt, Int.not_le] at hc)); (try (simp (disch := first | omega | (simp <;> omega) | fail) only [push_cast, ↓reduceIte, Nat.reduceEqDiff, Nat.reduceAdd, Nat.reduceMul, Nat.reduceSub, Nat.reduceLT, Int.reduceToNat]))
        have hke : k = (lS o).length := by omega
        subst hke
        rw [List.take_length] at hs
        obtain ⟨hn0, B, hS, hB⟩ := hs
        obtain ⟨o9, w9, l9⟩ := S1.vwI0 (n0 := 0) hS (fun _ _ => Nat.zero_le _)
        have hall := c_laws_pAllOnce o9 (lS o).length (by rw [l9, List.length_map]) (fun i hi => by rw [l9]; exact hao i hi)
        (try (simp (disch := first | omega | (simp <;> omega) | fail) only [push_cast, ↓reduceIte, Nat.reduceEqDiff, Nat.reduceAdd, Nat.reduceMul, Nat.reduceSub, Nat.reduceLT, Int.reduceToNat]))
        refine hall.lendL (.cons w9 (.free free_int .nil)) own_bool ?_
        (try (simp (disch := first | omega | (simp <;> omega) | fail) only [push_cast, ↓reduceIte, Nat.reduceEqDiff, Nat.reduceAdd, Nat.reduceMul, Nat.reduceSub, Nat.reduceLT, Int.reduceToNat]))
        rw [← hAft]
        clear hAft hao hfl hfh w9 l9 hall hS hB htx2
        by_cases hK0 : (lS o).length = 0
        · have hK0' : (((lS o).length : Int) = 0) = True := eq_true (by omega)
          have hnil : lS o = [] := List.eq_nil_of_length_eq_zero hK0
          have hn1 : (nodesK (lS o)).length = 1 := by rw [hnil, nodes_none]; rfl
          rw [hn1] at hno
          (try (simp (disch := first | omega | (simp <;> omega) | fail) only [push_cast, ↓reduceIte, Nat.reduceEqDiff, Nat.reduceAdd, Nat.reduceMul, Nat.reduceSub, Nat.reduceLT, Int.reduceToNat, hK0', hbx]))
          refine hno.call ?_
          (try (simp (disch := first | omega | (simp <;> omega) | fail) only [push_cast, ↓reduceIte, Nat.reduceEqDiff, Nat.reduceAdd, Nat.reduceMul, Nat.reduceSub, Nat.reduceLT, Int.reduceToNat]))
          done
        · have hK0' : (((lS o).length : Int) = 0) = False := eq_false (by omega)
          obtain ⟨i, hi⟩ : ∃ i : Nat, (lU more).length % (lS o).length = i := ⟨_, rfl⟩
          have hil : i < (lS o).length := by
            rw [← hi]
            exact Nat.mod_lt _ (by omega)
          have hiN : ((lU more).length : Int) % ((lS o).length : Int) = (i : Int) := by
            rw [← hi]
            simp
          have hs1 : slcA 1 none (some (.int .i64 i)) (eS o) = some (eS (tkeS i o)) := slc_eS_hi (by omega) (by omega)
          have hs2 : slcA 1 (some (.int .i64 ((i : Int) + 1))) none (eS o) = some (eS (dreS (i + 1) o)) := slc_eS_lo (by omega) (by omega)
          obtain ⟨hR1, hR2, hR3⟩ := keep_one hKo hil
          have hfn := fewer_nodes hKo hR1 hR3
          obtain ⟨R, hRd⟩ : ∃ R, R = (lS o).take i ++ (lS o).drop (i + 1) := ⟨_, rfl⟩
          have hRl : R.length ≤ 40 := by rw [hRd, List.length_append, List.length_take, List.length_drop]; omega
          rw [← hRd] at hR1 hR2 hfn
          have htR := trV_of (tK_ok hR1)
          have hs0 : S1 (h' ++ [some (.cells [])]) 1 (.sl h'.length 0 1 0 0) 0 [] [h'.length] := ⟨by simp, .inr ⟨_, rfl, rfl, by rw [cells_h0]; rfl⟩⟩
          have hl1 : (lS (tkeS i o)).length ≤ 40 := by rw [lS_tk, List.length_take]; omega
          have hl2 : (lS (dreS (i + 1) o)).length ≤ 40 := by rw [lS_dr, List.length_drop]; omega
          (try (simp (disch := first | omega | (simp <;> omega) | fail) only [push_cast, ↓reduceIte, Nat.reduceEqDiff, Nat.reduceAdd, Nat.reduceMul, Nat.reduceSub, Nat.reduceLT, Int.reduceToNat, hK0', hiN, hs1, hs2, reads, List.mem_cons, List.mem_append, List.not_mem_nil, nat_ff, or_self, or_false, false_or, not_false_eq_true]))
          rw [src_eS2]
          refine hs0.app0 (k := (lS (tkeS i o)).length) (by_ := 16) (fun b hb => by simp at hb; subst hb; first | exact Or.inr (by omega) | exact ⟨Or.inr (by omega), by simp⟩) (by simp) (by omega) fun v1 g1 B1 a1 a2 a3 a4 a5 => ?_
          simp only [List.length_append, List.length_cons, List.length_nil] at a2 a3
          have b1 : ∀ k ∈ B1, h'.length ≤ k := fun k hk => by rcases a4 k hk with h5 | h5 <;> simp at h5 <;> omega
          (try (simp (disch := first | omega | (simp <;> omega) | fail) only [push_cast, ↓reduceIte, Nat.reduceEqDiff, Nat.reduceAdd, Nat.reduceMul, Nat.reduceSub, Nat.reduceLT, Int.reduceToNat]))
          rw [src_eS2]
          refine a1.app0 (k := (lS (dreS (i + 1) o)).length) (by_ := 16) (fun b hb => by have := b1 b hb; first | exact Or.inr (by omega) | exact ⟨Or.inr (by omega), by simp⟩) (by simp) (by omega) fun v2 g2 B2 c1 c2 c3 c4 c5 => ?_
          have hL : (([] ++ (lS (tkeS i o)).map AV.str) ++ (lS (dreS (i + 1) o)).map AV.str) = R.map .str := by rw [hRd]; simp
          have hn : (0 + (lS (tkeS i o)).length + (lS (dreS (i + 1) o)).length) = R.length := by
            have := congrArg List.length hL
            simpa using this
          rw [hL, hn] at c1
          have b2 : ∀ k ∈ B2, h'.length ≤ k := fun k hk => by
            rcases c4 k hk with h5 | h5
            · exact b1 k h5
            · omega
          have hbx2 : H.cells g2 h.length = some [.int .i64 ss, eI sw, .int .i64 es, eI ew, .str lab] := by
            have hbl := cells_lt hbx
            exact cells_keep ((c3 _ (by omega) fun h5 => by have := b1 _ h5; omega).trans ((a3 _ (by omega) (by simp; omega)).trans (List.getElem?_append_left hbl))) hbx
          obtain ⟨o8, w8, l8⟩ := S1.vwS0 (n0 := 0) c1 (fun _ _ => Nat.zero_le _)
          have hbt8 := c_impl_BuildTrie_o o8 (by rw [l8]; exact hR1)
          rw [l8] at hbt8
          have hth := c_impl_TrieHas (tK R) ((lS o).getD i [])
          have htk := c_impl_TrieKeys_o (tK R)
          have hnd := c_impl_NodesOf (tK R)
          have e1 : haD (tK R) ((lS o).getD i []) = .tup [.bool false, .bool true] := by
            unfold haD
            rw [htR]
            simp only
            rw [decide_eq_false hR2]
          have e2 : noD (tK R) = .tup [.int .i64 (nodesK R).length, .bool true] := by
            unfold noD
            rw [htR]
          rw [e1] at hth
          rw [e2] at hnd
          have hkg : ∀ v, KyR (tK R) (fun _ => true) v → ∃ o7, v = .tup [eS o7, .bool true] ∧ lS o7 = R := fun v hv => by
            obtain ⟨o7, b7, rfl, h7⟩ := KyR_get hv
            rw [htR] at h7
            rcases h7 with ⟨rfl, h8⟩ | ⟨_, h8, _⟩
            · injection h8 with h8
              exact ⟨o7, rfl, h8.symm⟩
            · cases h8
          clear e1 e2 htR
          (try (simp (disch := first | omega | (simp <;> omega) | fail) only [push_cast, ↓reduceIte, Nat.reduceEqDiff, Nat.reduceAdd, Nat.reduceMul, Nat.reduceSub, Nat.reduceLT, Int.reduceToNat]))
          refine hbt8.goL (.cons w8 .nil) fun x t' g3 hR9 hx3 how3 => ?_
          subst hR9
          obtain ⟨y, rfl, hy⟩ := ow_tup2 rfl how3
          generalize tK R = U at *
          obtain ⟨x2, x4, F2, F4, rfl, f2, f4, _, _, _⟩ := ow_trE hy
          obtain ⟨p1, p2⟩ := ow_eI f2
          obtain ⟨p3, p4⟩ := ow_eI f4
          clear f2 f4 hbt8
          have hl3 := hx3.len
          have hvU : ∀ l', Vw (g3 ++ l') 0 (.agg [.int .i64 U.sh.size, x2, .int .i64 U.en.size, x4, .str U.lab]) (eTr U) := fun l' => (hy.frame fun c hc => List.getElem?_append_left hc.2).vw0
          have hvR : ∀ g' : H, (∀ k, k < g2.length → g'[k]? = g2[k]?) → ∃ o', Vw g' 0 v2 (eS o') ∧ lS o' = R := fun g' hg => S1.vwS0 (n0 := 0) (c1.frame fun k hk => hg k (c1.lt k hk)) (fun _ _ => Nat.zero_le _)
          have hbx3 : ∀ l', H.cells (g3 ++ l') h.length = some [.int .i64 ss, eI sw, .int .i64 es, eI ew, .str lab] := fun l' => cells_app (hx3.cells hbx2)
          have hpm : (h.length ≤ g3.length) = True := eq_true (by have := cells_lt hbx2; omega)
          (try (simp (disch := first | omega | (simp <;> omega) | fail) only [push_cast, ↓reduceIte, Nat.reduceEqDiff, Nat.reduceAdd, Nat.reduceMul, Nat.reduceSub, Nat.reduceLT, Int.reduceToNat, p1, p2, p3, p4, hpm, reads, List.mem_cons, List.mem_append, List.not_mem_nil, nat_ff, or_self, or_false, false_or, not_false_eq_true]))
          refine hth.lendL (.cons (hvU _) (.free free_str .nil)) (own_tup (own_cons_ own_bool (own_cons_ own_bool own_nil_))) ?_
          (try (simp (disch := first | omega | (simp <;> omega) | fail) only [push_cast, ↓reduceIte, Nat.reduceEqDiff, Nat.reduceAdd, Nat.reduceMul, Nat.reduceSub, Nat.reduceLT, Int.reduceToNat, p1, p2, p3, p4, hpm, reads, List.mem_cons, List.mem_append, List.not_mem_nil, nat_ff, or_self, or_false, false_or, not_false_eq_true]))
          refine htk.goL (.cons (hvU _) .nil) fun x t' g4 hR9 hx4 how4 => ?_
          obtain ⟨o7, rfl, l7⟩ := hkg _ hR9
          obtain ⟨z, rfl, hz⟩ := ow_tup2 rfl how4
          have hbU : H.cells g4 g3.length = some [.int .i64 U.sh.size, x2, .int .i64 U.en.size, x4, .str U.lab] := hx4.cells (by rw [cells_h0]; rfl)
          have hvU4 : Vw g4 0 (.agg [.int .i64 U.sh.size, x2, .int .i64 U.en.size, x4, .str U.lab]) (eTr U) := (hy.frame fun c hc => (hx4.at_ (by have := hc.2; simp; omega)).trans (List.getElem?_append_left hc.2)).vw0
          have hbx4 : H.cells g4 h.length = some [.int .i64 ss, eI sw, .int .i64 es, eI ew, .str lab] := hx4.cells (hbx3 _)
          obtain ⟨o6, w6, l6⟩ := hvR g4 fun k hk => (hx4.at_ (by simp; omega)).trans ((List.getElem?_append_left (by omega)).trans (hx3.at_ hk))
          (try (simp (disch := first | omega | (simp <;> omega) | fail) only [push_cast, ↓reduceIte, Nat.reduceEqDiff, Nat.reduceAdd, Nat.reduceMul, Nat.reduceSub, Nat.reduceLT, Int.reduceToNat, hbU, p1, p2, p3, p4]))
          refine hnd.lendL (.cons hvU4 .nil) (own_tup (own_cons_ own_int (own_cons_ own_bool own_nil_))) ?_
          (try (simp (disch := first | omega | (simp <;> omega) | fail) only [push_cast, ↓reduceIte, Nat.reduceEqDiff, Nat.reduceAdd, Nat.reduceMul, Nat.reduceSub, Nat.reduceLT, Int.reduceToNat, hbx4, hbU, p1, p2, p3, p4]))
          refine hno.call ?_
          (try (simp (disch := first | omega | (simp <;> omega) | fail) only [push_cast, ↓reduceIte, Nat.reduceEqDiff, Nat.reduceAdd, Nat.reduceMul, Nat.reduceSub, Nat.reduceLT, Int.reduceToNat]))
          refine (c_laws_pSameTexts o7 o6 (l7.trans l6.symm)).lendL (.cons hz.vw0 (.cons w6 .nil)) own_bool ?_
          (try (simp (disch := first | omega | (simp <;> omega) | fail) only [push_cast, ↓reduceIte, Nat.reduceEqDiff, Nat.reduceAdd, Nat.reduceMul, Nat.reduceSub, Nat.reduceLT, Int.reduceToNat]))
          done
    · cases h5
  · (try (simp (disch := first | omega | (simp <;> omega) | fail) only [push_cast, ↓reduceIte, Nat.reduceEqDiff, Nat.reduceAdd, Nat.reduceMul, Nat.reduceSub, Nat.reduceLT, Int.reduceToNat]))

end Go.Proofs.YtidhhiecgehgfaaGreat.M
