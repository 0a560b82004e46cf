/-
  What the functions return.
-/
import Derived.Test.YtdkgoaiodjokpaaGreatFa
import Derived.Test.YtdkgoaiodjokpaaGreatCy
namespace Go.Proofs.YtdkgoaiodjokpaaGreat.M
open Go Go.RowKit
set_option linter.unusedVariables false
set_option linter.unusedSimpArgs false
set_option maxRecDepth 4000

/-- A list of structs that grows, with the blocks that it may hold told by G. -/
def OwG (h : H) (G : Nat → Prop) (sz : Nat) (v : AV) (k : Nat) (ts : List AV) : Prop := (v = .nils ∧ k = 0 ∧ ts = []) ∨ Ow h [v] [.ro sz ts k] G
theorem OwG.mono {h : H} {G G' : Nat → Prop} {sz k : Nat} {v : AV} {ts : List AV} (ho : OwG h G sz v k ts) (hG : ∀ c, G c → G' c) : OwG h G' sz v k ts := by
  rcases ho with h0 | ho
  · exact .inl h0
  · exact .inr (ho.mono hG)
theorem OwG.frame {h h' : H} {G : Nat → Prop} {sz k : Nat} {v : AV} {ts : List AV} (ho : OwG h G sz v k ts) (hk : ∀ c, G c → h'[c]? = h[c]?) : OwG h' G sz v k ts := by
  rcases ho with h0 | ho
  · exact .inl h0
  · exact .inr (ho.frame hk)
theorem OwG.cell {h : H} {G : Nat → Prop} {sz k : Nat} {v : AV} {ts : List AV} (ho : OwG h G sz v k ts) : one v = true ∧ cellsOf v = [v] := by
  rcases ho with ⟨rfl, _, _⟩ | ho
  · exact ⟨rfl, rfl⟩
  · obtain ⟨b, rfl⟩ := ho.sl1
    exact ⟨rfl, rfl⟩
theorem OwG.app {h h2 : H} {G : Nat → Prop} {sz k by_ : Nat} {v : AV} {ts new nt : List AV} {pm : Nat → Prop} {Q : AV → H → Prop} (ho : OwG h G sz v k ts) (hpm : ∀ b, G b → pm b) (hl : h.length ≤ h2.length) (hk : ∀ c, G c → h2[c]? = h[c]?)
    (hn : Ow h2 new nt fun c => h.length ≤ c) (hsz : new.length = sz) (h1 : nt.all one = true) (hb : (k + 1) * by_ ≤ 140737488355328)
    (hQ : ∀ v' h', Ow h' [v'] [.ro sz (ts ++ nt) (k + 1)] (fun c => G c ∨ h.length ≤ c) → h2.length ≤ h'.length → (∀ c, c < h2.length → ¬ G c → h'[c]? = h2[c]?) → v' ≠ .nils → Q v' h') : apA pm h2 Q sz by_ (some (new, 1)) v := by
  have hnl := hn.len
  obtain ⟨V, v1, v2, v3⟩ := hn.exact_ (n0 := 0) (fun _ _ => Nat.zero_le _)
  have hV : ∀ c, V c → c < h2.length := fun c hc => by
    obtain ⟨l, hl, _⟩ := v2 c hc
    exact cells_lt hl
  rcases ho with ⟨rfl, rfl, rfl⟩ | ho
  · rw [apA_nil (by decide)]
    refine ⟨by simpa using hb, hQ _ _ ?_ (by simp) (fun c hc _ => List.getElem?_append_left hc) (by simp)⟩
    refine .sl (b := h2.length) (cs := new) (F := V) (F' := fun _ => False) (by rw [cells_h0]; rfl) (by omega) (by simpa using h1) (v3 _ fun c hc => List.getElem?_append_left (hV c hc)) .nil (.inr hl) (fun c hc => ⟨.inr (v1 c hc), by have := hV c hc; omega⟩) (fun c hc => hc.elim)
  · obtain ⟨b, cs, F, rfl, hc, hcl, hbn, hF, hin, hre⟩ := ho.open_
    have hbl := cells_lt hc
    obtain ⟨U, u1, u2, u3⟩ := hin.exact_ (n0 := 0) (fun _ _ => Nat.zero_le _)
    have hU : ∀ c, U c → c < h.length := fun c hc => by
      obtain ⟨l, hl, _⟩ := u2 c hc
      exact cells_lt hl
    have hc2 : h2.cells b = some cs := cells_keep_ (hk b hbn) hc
    have htsone : ts.all one = true := by
      cases ho with
      | sl _ _ h1 _ _ _ _ _ => exact h1
    rw [apA_sl, hc2, apC_grow (by decide) (by omega)]
    refine ⟨by omega, hpm b hbn, hb, ?_⟩
    have htk : (cs.drop 0).take (k * sz) = cs := by rw [List.drop_zero, ← hcl, List.take_length]
    rw [htk]
    have hg : ∀ c, c < h2.length → c ≠ b → (killed h2 b ++ [some (.cells (cs ++ new))])[c]? = h2[c]? := fun c hc hne => by
      rw [List.getElem?_append_left (by simpa [killed] using hc)]
      unfold killed
      exact List.getElem?_set_ne (Ne.symm hne)
    refine hQ _ _ ?_ (by simp [killed]) (fun c hc hn => hg c hc (fun he => hn (by rw [he]; exact hbn))) (by simp)
    have A := u3 (killed h2 b ++ [some (.cells (cs ++ new))]) fun c hc => (hg c (by have := hU c hc; omega) (hF c (u1 c hc)).2).trans (hk c (hF c (u1 c hc)).1)
    have B := v3 (killed h2 b ++ [some (.cells (cs ++ new))]) fun c hc => hg c (hV c hc) (by have := v1 c hc; omega)
    refine .sl (b := h2.length) (cs := cs ++ new) (F := fun c => U c ∨ V c) (F' := fun _ => False) ?_ ?_ ?_ (A.app B (fun c hc => .inl hc) (fun c hc => ⟨.inr hc, fun hu => by have := hU c hu; have := v1 c hc; omega⟩)) .nil (.inr hl) ?_ (fun c hc => hc.elim)
    · rw [cells_eq, List.getElem?_append_right (by simp [killed])]
      simp [killed, cellsO]
    · rw [List.length_append, hcl, hsz, Nat.succ_mul]
    · rw [List.all_append, Bool.and_eq_true]
      exact ⟨htsone, h1⟩
    · rintro c (hc | hc)
      · exact ⟨.inl (hF c (u1 c hc)).1, by have := hU c hc; omega⟩
      · exact ⟨.inr (v1 c hc), by have := hV c hc; omega⟩

/-- How many bytes two strings begin with alike. -/
def cpl : Str → Str → Nat
  | x :: a, y :: b => if x = y then cpl a b + 1 else 0
  | _, _ => 0
theorem cpl_1 : ∀ a b : Str, cpl a b ≤ a.length
  | [], b => by simp [cpl]
  | x :: a, [] => by simp [cpl]
  | x :: a, y :: b => by
    have := cpl_1 a b
    unfold cpl
    split <;> simp <;> omega
theorem cpl_2 : ∀ a b : Str, cpl a b ≤ b.length
  | [], b => by simp [cpl]
  | x :: a, [] => by simp [cpl]
  | x :: a, y :: b => by
    have := cpl_2 a b
    unfold cpl
    split <;> simp <;> omega
theorem cpl_on : ∀ (a b : Str) (i : Nat), i < cpl a b → a.getD i 0 = b.getD i 0
  | [], b, i, h => by simp [cpl] at h
  | x :: a, [], i, h => by simp [cpl] at h
  | x :: a, y :: b, i, h => by
    unfold cpl at h
    split at h
    · rename_i he
      cases i with
      | zero => simpa using he
      | succ i => simpa using cpl_on a b i (by omega)
    · omega
theorem cpl_off : ∀ (a b : Str), cpl a b < a.length → cpl a b < b.length → a.getD (cpl a b) 0 ≠ b.getD (cpl a b) 0
  | [], b, h, _ => by simp at h
  | x :: a, [], _, h => by simp at h
  | x :: a, y :: b, h1, h2 => by
    unfold cpl at h1 h2 ⊢
    split at h1
    · rename_i he
      rw [if_pos he] at h2 ⊢
      have := cpl_off a b (by simpa using h1) (by simpa using h2)
      simpa using this
    · rename_i he
      rw [if_neg he]
      simpa using he
theorem cpl_take : ∀ a b : Str, a.take (cpl a b) = b.take (cpl a b)
  | [], b => by simp [cpl]
  | x :: a, [] => by simp [cpl]
  | x :: a, y :: b => by
    unfold cpl
    split
    · rename_i he
      rw [List.take_succ_cons, List.take_succ_cons, he, cpl_take a b]
    · simp
def kpF (K : List Str) (b i : Nat) : Nat := if i % b = 0 then 0 else cpl (K.getD (i - 1) []) (K.getD i [])
def keF (K : List Str) (b k : Nat) : List Int := (List.range k).map fun i => (kpF K b i : Int)
def taF (K : List Str) (b k : Nat) : List Str := (List.range k).map fun i => (K.getD i []).drop (kpF K b i)
theorem keF_len {K : List Str} {b k : Nat} : (keF K b k).length = k := by simp [keF]
theorem taF_len {K : List Str} {b k : Nat} : (taF K b k).length = k := by simp [taF]
theorem keF_succ {K : List Str} {b k : Nat} : keF K b (k + 1) = keF K b k ++ [(kpF K b k : Int)] := by simp [keF, List.range_succ]
theorem taF_succ {K : List Str} {b k : Nat} : taF K b (k + 1) = taF K b k ++ [(K.getD k []).drop (kpF K b k)] := by simp [taF, List.range_succ]
/-- Nothing has been appended: nil. -/
def oIn (l : List Int) : Option (List Int) := if l.length = 0 then none else some l
def oSn (l : List Str) : Option (List Str) := if l.length = 0 then none else some l
theorem lI_oIn {l : List Int} : lI (oIn l) = l := by
  unfold oIn
  split
  · rename_i h
    exact (List.eq_nil_of_length_eq_zero h).symm
  · rfl
theorem lS_oSn {l : List Str} : lS (oSn l) = l := by
  unfold oSn
  split
  · rename_i h
    exact (List.eq_nil_of_length_eq_zero h).symm
  · rfl
/-- A front-coded list of keys. -/
def cFr (b : Nat) (K : List Str) : List AV := [.int .i64 b, eI (oIn (keF K b K.length)), eS (oSn (taF K b K.length))]
def eFr (b : Nat) (K : List Str) : AV := .agg (cFr b K)
theorem free_cFr {b : Nat} {K : List Str} : ∀ c ∈ cFr b K, Free c := free_cons_ free_int (free_cons_ free_eI (free_cons_ free_eS free_nil_))
theorem free_eFr {b : Nat} {K : List Str} : Free (eFr b K) := free_agg free_cFr
/-- A front that is made: its box, what the box holds, two lists. -/
def FrS (h g : H) (blk : Int) (c1 c2 v1 : AV) (L1 : List Int) (v2 : AV) (L2 : List Str) : Prop :=
  h.length + 2 ≤ g.length ∧ g.cells h.length = some [.int .i64 0, .nils, .nils] ∧ g.cells (h.length + 1) = some [.int .i64 blk, c1, c2] ∧
  ∃ B1 B2, S1 g 1 v1 L1.length (L1.map (.int .i64)) B1 ∧ S1 g 1 v2 L2.length (L2.map .str) B2 ∧ (∀ k ∈ B1, h.length + 2 ≤ k ∧ k ∉ B2) ∧ ∀ k ∈ B2, h.length + 2 ≤ k
theorem FrS.ones {h g : H} {blk : Int} {c1 c2 v1 v2 : AV} {L1 : List Int} {L2 : List Str} (hI : FrS h g blk c1 c2 v1 L1 v2 L2) : one v1 = true ∧ cellsOf v1 = [v1] ∧ one v2 = true ∧ cellsOf v2 = [v2] := by
  obtain ⟨_, _, _, B1, B2, h1, h2, _⟩ := hI
  exact ⟨h1.one_.1, h1.one_.2, h2.one_.1, h2.one_.2⟩
theorem FrS.box {h g : H} {blk : Int} {c1 c2 v1 v2 : AV} {L1 : List Int} {L2 : List Str} (hI : FrS h g blk c1 c2 v1 L1 v2 L2) : ∀ l, H.cells (g ++ l) (h.length + 1) = some [.int .i64 blk, c1, c2] := fun l => cells_app hI.2.2.1
theorem FrS.app1 {h g G : H} {blk q : Int} {c1 c2 v1 v2 : AV} {L1 : List Int} {L2 : List Str} {pm : Nat → Prop} {Q : AV → H → Prop} (hI : FrS h g blk c1 c2 v1 L1 v2 L2) (hG : ∃ l, G = g ++ l) (hpm : ∀ k, h.length ≤ k → pm k) (hN : L1.length ≤ 1000000)
    (hQ : ∀ v' g3, FrS h g3 blk c1 c2 v' (L1 ++ [q]) v2 L2 → (∀ k cs, g.length ≤ k → G.cells k = some cs → g3.cells k = some cs) → one v' = true → cellsOf v' = [v'] → Q v' g3) : apA pm G Q 1 8 (some ([.int .i64 q], 1)) v1 := by
  obtain ⟨l, rfl⟩ := hG
  obtain ⟨p0, p4, p5, B1, B2, q1, q2, q3, q4⟩ := hI
  refine (q1.frame (h' := g ++ l) fun k hk => List.getElem?_append_left (q1.lt k hk)).app0 (new := [.int .i64 q]) (k := 1) (by_ := 8) (fun k hk => hpm k (by have := (q3 k hk).1; omega)) rfl (by omega) fun w2 g2 C2 a1 a2 a3 a4 a5 => ?_
  simp only [List.length_append] at a2 a3 a4
  have hk2 : ∀ k, k < g.length → k ∉ B1 → g2[k]? = g[k]? := fun k hk hn => (a3 k (by omega) hn).trans (List.getElem?_append_left hk)
  have hC2 : ∀ k ∈ C2, h.length + 2 ≤ k ∧ k ∉ B2 := fun k hk => by
    rcases a4 k hk with h5 | h5
    · exact q3 k h5
    · exact ⟨by omega, fun h7 => by have := q2.lt k h7; omega⟩
  have ho := a1.one_
  refine hQ w2 g2 ⟨by omega, cells_keep (hk2 _ (by omega) fun h5 => by have := (q3 _ h5).1; omega) p4, cells_keep (hk2 _ (by omega) fun h5 => by have := (q3 _ h5).1; omega) p5, C2, B2, by simpa using a1, q2.frame fun k hk => hk2 k (q2.lt k hk) fun h5 => (q3 k h5).2 hk, hC2, q4⟩ (fun k cs hk hc => cells_keep (a3 k (by have := cells_lt hc; simpa using this) fun h5 => by have := q1.lt k h5; omega) hc) ho.1 ho.2
theorem FrS.app2 {h g G : H} {blk : Int} {q : Str} {c1 c2 v1 v2 : AV} {L1 : List Int} {L2 : List Str} {pm : Nat → Prop} {Q : AV → H → Prop} (hI : FrS h g blk c1 c2 v1 L1 v2 L2) (hG : ∃ l, G = g ++ l) (hpm : ∀ k, h.length ≤ k → pm k) (hN : L2.length ≤ 1000000)
    (hQ : ∀ v' g3, FrS h g3 blk c1 c2 v1 L1 v' (L2 ++ [q]) → one v' = true → cellsOf v' = [v'] → Q v' g3) : apA pm G Q 1 16 (some ([.str q], 1)) v2 := by
  obtain ⟨l, rfl⟩ := hG
  obtain ⟨p0, p4, p5, B1, B2, q1, q2, q3, q4⟩ := hI
  refine (q2.frame (h' := g ++ l) fun k hk => List.getElem?_append_left (q2.lt k hk)).app0 (new := [.str q]) (k := 1) (by_ := 16) (fun k hk => hpm k (by have := q4 k hk; omega)) rfl (by omega) fun w2 g2 C2 a1 a2 a3 a4 a5 => ?_
  simp only [List.length_append] at a2 a3 a4
  have hk2 : ∀ k, k < g.length → k ∉ B2 → g2[k]? = g[k]? := fun k hk hn => (a3 k (by omega) hn).trans (List.getElem?_append_left hk)
  have hC2 : ∀ k ∈ C2, h.length + 2 ≤ k := fun k hk => by
    rcases a4 k hk with h5 | h5
    · exact q4 k h5
    · omega
  have hC3 : ∀ k ∈ B1, k ∉ C2 := fun k hk hc => by
    rcases a4 k hc with h5 | h5
    · exact (q3 k hk).2 h5
    · have := q1.lt k hk
      omega
  have ho := a1.one_
  exact hQ w2 g2 ⟨by omega, cells_keep (hk2 _ (by omega) fun h5 => by have := q4 _ h5; omega) p4, cells_keep (hk2 _ (by omega) fun h5 => by have := q4 _ h5; omega) p5, B1, C2, q1.frame fun k hk => hk2 k (q1.lt k hk) (q3 k hk).2, by simpa using a1, fun k hk => ⟨(q3 k hk).1, hC3 k hk⟩, hC2⟩ ho.1 ho.2
/-- Both are put into the box. -/
theorem FrS.put {h g : H} {blk : Int} {c1 c2 v1 v2 : AV} {L1 : List Int} {L2 : List Str} (hI : FrS h g blk c1 c2 v1 L1 v2 L2) (cs : List AV) : FrS h (wr (wr g (h.length + 1) cs) (h.length + 1) [.int .i64 blk, v1, v2]) blk v1 v2 v1 L1 v2 L2 := by
  obtain ⟨p0, p4, p5, B1, B2, q1, q2, q3, q4⟩ := hI
  have hw : ∀ k, k ≠ h.length + 1 → (wr (wr g (h.length + 1) cs) (h.length + 1) [.int .i64 blk, v1, v2])[k]? = g[k]? := fun k hk => by
    unfold wr
    rw [List.getElem?_set_ne (Ne.symm hk), List.getElem?_set_ne (Ne.symm hk)]
  exact ⟨by simp [wr]; omega, cells_keep (hw _ (by omega)) p4, cells_wr2 (by simp [wr]; omega), B1, B2, q1.frame fun k hk => hw k (by have := (q3 k hk).1; omega), q2.frame fun k hk => hw k (by have := q4 k hk; omega), q3, q4⟩
/-- What is seen of it, once it is in the result's box. -/
theorem FrS.fin {h g : H} {blk : Int} {c1 c2 v1 v2 : AV} {L1 : List Int} {L2 : List Str} (hI : FrS h g blk c1 c2 v1 L1 v2 L2) (hn1 : L1.length = 0 → v1 = .nils) (hn2 : L2.length = 0 → v2 = .nils) (cs : List AV) : Vw (wr g h.length cs) h.length (.agg [.int .i64 blk, v1, v2]) (.agg [.int .i64 blk, eI (oIn L1), eS (oSn L2)]) := by
  obtain ⟨p0, p4, p5, B1, B2, q1, q2, q3, q4⟩ := hI
  have hw : ∀ k, k ≠ h.length → (wr g h.length cs)[k]? = g[k]? := fun k hk => by
    unfold wr
    rw [List.getElem?_set_ne (Ne.symm hk)]
  have w1 : Vw (wr g h.length cs) h.length v1 (eI (oIn L1)) := by
    unfold oIn
    by_cases h0 : L1.length = 0
    · rw [if_pos h0, hn1 h0]
      exact .free free_nils
    · rw [if_neg h0]
      rcases q1.2 with ⟨_, h5, _⟩ | ⟨b, rfl, rfl, hc⟩
      · exact absurd h5 h0
      · exact vw_all (by have := (q3 b (by simp)).1; omega) (cells_keep (hw b (by have := (q3 b (by simp)).1; omega)) hc) (by simp) (one_map fun _ => rfl) (free_map_ fun _ => free_int)
  have w2 : Vw (wr g h.length cs) h.length v2 (eS (oSn L2)) := by
    unfold oSn
    by_cases h0 : L2.length = 0
    · rw [if_pos h0, hn2 h0]
      exact .free free_nils
    · rw [if_neg h0]
      rcases q2.2 with ⟨_, h5, _⟩ | ⟨b, rfl, rfl, hc⟩
      · exact absurd h5 h0
      · exact vw_all (by have := q4 b (by simp); omega) (cells_keep (hw b (by have := q4 b (by simp); omega)) hc) (by simp) (one_map fun _ => rfl) (free_map_ fun _ => free_str)
  refine .agg rfl fun j y t hy ht => ?_
  rcases j with _ | _ | _ | j
  · simp at hy ht
    subst hy ht
    exact .free free_int
  · simp at hy ht
    subst hy ht
    exact w1
  · simp at hy ht
    subst hy ht
    exact w2
  · simp at hy

theorem FrS.ow {h g : H} {blk : Int} {c1 c2 v1 v2 : AV} {L1 : List Int} {L2 : List Str} (hI : FrS h g blk c1 c2 v1 L1 v2 L2) (hn1 : L1.length = 0 → v1 = .nils) (hn2 : L2.length = 0 → v2 = .nils) (cs : List AV) : Ow (wr g h.length cs) [.agg [.int .i64 blk, v1, v2]] [.agg [.int .i64 blk, eI (oIn L1), eS (oSn L2)]] (fun c => h.length ≤ c) := by
  obtain ⟨p0, p4, p5, B1, B2, q1, q2, q3, q4⟩ := hI
  have hw : ∀ k, k ≠ h.length → (wr g h.length cs)[k]? = g[k]? := fun k hk => by
    unfold wr
    rw [List.getElem?_set_ne (Ne.symm hk)]
  have w1 : Ow (wr g h.length cs) [v1] [eI (oIn L1)] (fun c => c ∈ B1) := by
    unfold oIn
    by_cases h0 : L1.length = 0
    · rw [if_pos h0, hn1 h0]
      exact .atom rfl .nil
    · rw [if_neg h0]
      rcases q1.2 with ⟨_, h5, _⟩ | ⟨b, rfl, rfl, hc⟩
      · exact absurd h5 h0
      · exact ow_map (f := AV.int .i64) (fun _ => rfl) (cells_keep (hw b (by have := (q3 b (by simp)).1; omega)) hc) rfl (by simp)
  have w2 : Ow (wr g h.length cs) [v2] [eS (oSn L2)] (fun c => c ∈ B2) := by
    unfold oSn
    by_cases h0 : L2.length = 0
    · rw [if_pos h0, hn2 h0]
      exact .atom rfl .nil
    · rw [if_neg h0]
      rcases q2.2 with ⟨_, h5, _⟩ | ⟨b, rfl, rfl, hc⟩
      · exact absurd h5 h0
      · exact ow_map (f := AV.str) (fun _ => rfl) (cells_keep (hw b (by have := q4 b (by simp); omega)) hc) rfl (by simp)
  exact Ow.aggOf (.atom rfl (w1.cons (F' := fun c => c ∈ B2) w2 (fun c hc => by have := (q3 c hc).1; omega) (fun c hc => ⟨by have := q4 c hc; omega, fun h5 => (q3 c h5).2 hc⟩)))
set_option maxHeartbeats 4000000 in
theorem c_impl_front_o (o : Option (List Str)) (b : Nat) (hb : 1 ≤ b) (hb2 : b ≤ 1000) (hl : (lS o).length ≤ 1000) (hs : ∀ s ∈ lS o, s.length ≤ 1000) : FnO Tryz.prog 39 [eS o, .int .i64 b] (· = eFr b (lS o)) := by
  intro h
  refine enter (by kernel_rfl) e39 (by kernel_rfl) rfl fun hok => ?_
  simp only [r39, initEnv_2]
  have hlen := ok_eS (okV_0 hok)
  generalize hBL : RCode.block 2 _ = BL
  have hb0 : ((b : Int) = 0) = False := eq_false (by omega)
  (try (simp (disch := first | omega | (simp <;> omega) | fail) only [push_cast, ↓reduceIte, Nat.reduceEqDiff, Nat.reduceAdd, Nat.reduceMul, Nat.reduceSub, Nat.reduceLT, Int.reduceToNat]))
  have hI0 : FrS h (h ++ [some (.cells [.int .i64 0, .nils, .nils]), some (.cells [.int .i64 b, .nils, .nils])]) b .nils .nils .nils [] .nils [] :=
    ⟨by simp, by rw [cells_h0]; rfl, by rw [cells_hk]; rfl, [], [], S1.nil, S1.nil, by simp, by simp⟩
  refine T_for (lS o).length (fun k e h' => ∃ v1 v2, Pins e [(0, eS o), (1, .int .i64 b), (4, .adr h.length 0), (5, .adr (h.length + 1) 0), (11, eS o), (12, .int .i64 (lS o).length), (13, .int .i64 k)] ∧ (FrS h h' b v1 v2 v1 (keF (lS o) b k) v2 (taF (lS o) b k) ∧ (k = 0 → v1 = .nils ∧ v2 = .nils))) ?_ ?_
  · refine ⟨.nils, .nils, ?_⟩
    (try (simp (disch := first | omega | (simp <;> omega) | fail) only [push_cast, ↓reduceIte, Nat.reduceEqDiff, Nat.reduceAdd, Nat.reduceMul, Nat.reduceSub, Nat.reduceLT, Int.reduceToNat]))
    all_goals (try exact ⟨hI0, fun _ => trivial⟩)
    done
  rintro k e g hk ⟨v1, v2, hp, hI, hn⟩
  refine T_pins hp fun e => ?_
  (try (simp (disch := first | omega | (simp <;> omega) | fail) only [push_cast, ↓reduceIte, Nat.reduceEqDiff, Nat.reduceAdd, Nat.reduceMul, Nat.reduceSub, Nat.reduceLT, Int.reduceToNat]))
  first | refine goC_split (fun hc => ?_) (fun hc => ?_) | refine cnd_split (fun hc => ?_) (fun hc => ?_)
  · (try (simp only [decide_eq_true_eq, decide_eq_false_iff_not, Bool.not_eq_true', Bool.not_eq_false', Bool.and_eq_true, Bool.or_eq_true, Int.not_lt, Int.not_le] at hc)); (try (simp (disch := first | omega | (simp <;> omega) | fail) only [push_cast, ↓reduceIte, Nat.reduceEqDiff, Nat.reduceAdd, Nat.reduceMul, Nat.reduceSub, Nat.reduceLT, Int.reduceToNat]))
    have hk2 : k < (lS o).length := by omega
    obtain ⟨y, hy⟩ : ∃ y, y = (lS o).getD k [] := ⟨_, rfl⟩
    have hyl : y.length ≤ 1000 := hs y (by rw [hy]; simp [hk2])
    have hgd : (lS o)[k]?.getD [] = y := by rw [hy, List.getD_eq_getElem?_getD]
    obtain ⟨z, hz⟩ : ∃ z, z = (lS o).getD (k - 1) [] := ⟨_, rfl⟩
    have hzl : z.length ≤ 1000 := hs z (by rw [hz]; simp [show k - 1 < (lS o).length by omega])
    obtain ⟨n, hn0⟩ : ∃ n, n = kpF (lS o) b k := ⟨_, rfl⟩
    have hkp : n = if k % b = 0 then 0 else cpl z y := by rw [hn0, hz, hy]; rfl
    have hny : n ≤ y.length := by
      rw [hkp]
      split
      · omega
      · exact cpl_2 z y
    have hrem : ((k : Int) % (b : Int)) = ((k % b : Nat) : Int) := by simp
    (try (simp (disch := first | omega | (simp <;> omega) | fail) only [push_cast, ↓reduceIte, Nat.reduceEqDiff, Nat.reduceAdd, Nat.reduceMul, Nat.reduceSub, Nat.reduceLT, Int.reduceToNat, hgd, ← hy]))
    refine T_cut (fun e h' => Pins e [(0, eS o), (1, .int .i64 b), (4, .adr h.length 0), (5, .adr (h.length + 1) 0), (6, .int .i64 k), (7, .str y), (8, .int .i64 n), (11, eS o), (12, .int .i64 (lS o).length), (13, .int .i64 k)] ∧ h' = g) ?_ ?_
    · rw [← hBL]
      clear hBL
      (try (simp (disch := first | omega | (simp <;> omega) | fail) only [push_cast, ↓reduceIte, Nat.reduceEqDiff, Nat.reduceAdd, Nat.reduceMul, Nat.reduceSub, Nat.reduceLT, Int.reduceToNat]))
      refine T_for n (fun i e h' => Pins e [(0, eS o), (1, .int .i64 b), (4, .adr h.length 0), (5, .adr (h.length + 1) 0), (6, .int .i64 k), (7, .str y), (8, .int .i64 i), (11, eS o), (12, .int .i64 (lS o).length), (13, .int .i64 k)] ∧ h' = g) ?_ ?_
      · (try (simp (disch := first | omega | (simp <;> omega) | fail) only [push_cast, ↓reduceIte, Nat.reduceEqDiff, Nat.reduceAdd, Nat.reduceMul, Nat.reduceSub, Nat.reduceLT, Int.reduceToNat]))
        all_goals (try simp)
        done
      rintro i e h' hi ⟨hp, rfl⟩
      refine T_pins hp fun e => ?_
      by_cases hkb : k % b = 0
      · rw [if_pos hkb] at hkp
        have hr1 : (0 < ((k : Int) % (b : Int))) = False := eq_false (by omega)
        have hi0 : i = n := by omega
        subst hi0
        (try (simp (disch := first | omega | (simp <;> omega) | fail) only [push_cast, ↓reduceIte, Nat.reduceEqDiff, Nat.reduceAdd, Nat.reduceMul, Nat.reduceSub, Nat.reduceLT, Int.reduceToNat, hb0, hr1]))
        done
      · rw [if_neg hkb] at hkp
        have hr1 : (0 < ((k : Int) % (b : Int))) = True := eq_true (by omega)
        have hk1 : 1 ≤ k := by
          rcases Nat.eq_zero_or_pos k with h5 | h5
          · rw [h5] at hkb
            simp at hkb
          · exact h5
        have hgz : (lS o).getD ((k : Int) - (0 + 1)).toNat [] = z := by rw [hz, show ((k : Int) - (0 + 1)).toNat = k - 1 by omega]
        have hk3 : k - 1 < (lS o).length := by omega
        by_cases hin : i < n
        · have e1 : ((i : Int) < (y.length : Int)) = True := eq_true (by omega)
          have e2 : ((i : Int) < (z.length : Int)) = True := eq_true (by have := cpl_1 z y; omega)
          have e3 := cpl_on z y i (by omega)
          have hiz : i < z.length := by have := cpl_1 z y; omega
          have hiy : i < y.length := by omega
          (try (simp (disch := first | omega | (simp <;> omega) | fail) only [push_cast, ↓reduceIte, Nat.reduceEqDiff, Nat.reduceAdd, Nat.reduceMul, Nat.reduceSub, Nat.reduceLT, Int.reduceToNat, hb0, hr1, ← hz, e1, e2, e3]))
          done
        · have hi0 : i = n := by omega
          subst hi0
          by_cases hyn : i < y.length
          · by_cases hzn : i < z.length
            · have e1 : ((i : Int) < (y.length : Int)) = True := eq_true (by omega)
              have e2 : ((i : Int) < (z.length : Int)) = True := eq_true (by omega)
              have e3 := cpl_off z y (by omega) (by omega)
              rw [← hkp] at e3
              have e4 : (((y.getD i 0).toNat : Int) = ((z.getD i 0).toNat : Int)) = False := eq_false fun h => e3 (UInt8.toNat_inj.1 (by omega)).symm
              have e5 : ((y.getD i 0).toNat = (z.getD i 0).toNat) = False := eq_false fun h => e3 (UInt8.toNat_inj.1 (by omega)).symm
              have e6 : (y.getD i 0 = z.getD i 0) = False := eq_false fun h => e3 h.symm
              (try (simp (disch := first | omega | (simp <;> omega) | fail) only [push_cast, ↓reduceIte, Nat.reduceEqDiff, Nat.reduceAdd, Nat.reduceMul, Nat.reduceSub, Nat.reduceLT, Int.reduceToNat, hb0, hr1, ← hz, e1, e2, e4, e5, e6]))
              done
            · have e1 : ((i : Int) < (y.length : Int)) = True := eq_true (by omega)
              have e2 : ((i : Int) < (z.length : Int)) = False := eq_false (by omega)
              (try (simp (disch := first | omega | (simp <;> omega) | fail) only [push_cast, ↓reduceIte, Nat.reduceEqDiff, Nat.reduceAdd, Nat.reduceMul, Nat.reduceSub, Nat.reduceLT, Int.reduceToNat, hb0, hr1, ← hz, e1, e2]))
              done
          · have e1 : ((i : Int) < (y.length : Int)) = False := eq_false (by omega)
            (try (simp (disch := first | omega | (simp <;> omega) | fail) only [push_cast, ↓reduceIte, Nat.reduceEqDiff, Nat.reduceAdd, Nat.reduceMul, Nat.reduceSub, Nat.reduceLT, Int.reduceToNat, hb0, hr1, e1]))
            done
    · clear hBL
      rintro e h' ⟨hp, rfl⟩
      refine T_pins hp fun e => ?_
      have hbx := hI.box
      have hb1 := hI.2.2.1
      obtain ⟨o1, o2, o3, o4⟩ := hI.ones
      have hl1 : (keF (lS o) b k).length = k := keF_len
      have hl2 : (taF (lS o) b k).length = k := taF_len
      have hlh := hI.1
      have hkn : keF (lS o) b k ++ [(n : Int)] = keF (lS o) b (k + 1) := by rw [keF_succ, hn0]
      have htn : taF (lS o) b k ++ [y.drop n] = taF (lS o) b (k + 1) := by rw [taF_succ, hn0, hy]
      have htk : List.take (y.length - n) (y.drop n) = y.drop n := List.take_of_length_le (by rw [List.length_drop]; omega)
      (try (simp (disch := first | omega | (simp <;> omega) | fail) only [push_cast, ↓reduceIte, Nat.reduceEqDiff, Nat.reduceAdd, Nat.reduceMul, Nat.reduceSub, Nat.reduceLT, Int.reduceToNat, hb1, hbx, o1, o2, o3, o4, htk, reads, List.mem_cons, List.mem_append, List.not_mem_nil, nat_ff, or_self, or_false, false_or, not_false_eq_true]))
      repeat' (with_reducible refine And.intro ?_ ?_)
      all_goals
        refine hI.app1 (q := (n : Int)) ⟨_, rfl⟩ (fun k hk => Or.inr hk) (by omega) fun w1 g3 hI3 hkp3 p1 p2 => ?_
        rw [hkn] at hI3
        have hb3 := hI3.2.2.1
        have hbx3 := hI3.box
        first | have q1 := hkp3 h'.length _ (Nat.le_refl _) (by rw [cells_h0]; rfl) | have q1 := trivial
        first | have q2 := hkp3 (h'.length + 1) _ (Nat.le_succ _) (by rw [cells_hk]; rfl) | have q2 := trivial
        (try (simp (disch := first | omega | (simp <;> omega) | fail) only [push_cast, ↓reduceIte, Nat.reduceEqDiff, Nat.reduceAdd, Nat.reduceMul, Nat.reduceSub, Nat.reduceLT, Int.reduceToNat, hb3, hbx3, p1, p2, o3, o4, q1, q2, htk, reads, List.mem_cons, List.mem_append, List.not_mem_nil, nat_ff, or_self, or_false, false_or, not_false_eq_true]))
        have happ : ∀ (pm : Nat → Prop) (Q : AV → H → Prop) (G : H), (∃ l, G = g3 ++ l) → (∀ k, h.length ≤ k → pm k) → (∀ w2 g4, FrS h g4 b v1 v2 w1 (keF (lS o) b (k + 1)) w2 (taF (lS o) b (k + 1)) → one w2 = true → cellsOf w2 = [w2] → Q w2 g4) → apA pm G Q 1 16 (some ([.str (y.drop n)], 1)) v2 :=
          fun pm Q G hG h1 h2 => hI3.app2 (q := y.drop n) hG h1 (by omega) fun w2 g4 hI4 => h2 w2 g4 (htn ▸ hI4)
        repeat' (with_reducible refine And.intro ?_ ?_)
        all_goals
          refine happ _ _ _ ?_ (fun k hk => Or.inr hk) fun w2 g4 hI4 p3 p4 => ?_
          · first
            | exact ⟨_, rfl⟩
            | exact ⟨[], (List.append_nil _).symm⟩
          have hb4 := hI4.2.2.1
          have hbx4 := hI4.box
          have hl4 := hI4.1
          have hpt := fun cs => hI4.put cs
          have hw4 := fun cs => cells_wr2 (cells_lt hb4) (cs := cs)
          (try (simp (disch := first | omega | (simp <;> omega) | fail) only [push_cast, ↓reduceIte, Nat.reduceEqDiff, Nat.reduceAdd, Nat.reduceMul, Nat.reduceSub, Nat.reduceLT, Int.reduceToNat, hb4, hbx4, hw4, p1, p2, p3, p4, reads, List.mem_cons, List.mem_append, List.not_mem_nil, nat_ff, or_self, or_false, false_or, not_false_eq_true]))
          all_goals (try exact ⟨_, _, hpt _, fun h => h.elim⟩)
          done
  · (try (simp only [decide_eq_true_eq, decide_eq_false_iff_not, Bool.not_eq_true', Bool.not_eq_false', Bool.and_eq_true, Bool.or_eq_true, Int.not_lt, Int.not_le] at hc)); (try (simp (disch := first | omega | (simp <;> omega) | fail) only [push_cast, ↓reduceIte, Nat.reduceEqDiff, Nat.reduceAdd, Nat.reduceMul, Nat.reduceSub, Nat.reduceLT, Int.reduceToNat]))
    have hke : k = (lS o).length := by omega
    subst hke
    have hb1 := hI.2.2.1
    have hb2 := hI.2.1
    obtain ⟨o1, o2, o3, o4⟩ := hI.ones
    have hpm : (h.length ≤ h.length) = True := by simp
    have hw := fun cs => cells_wr2 (cells_lt hb2) (cs := cs)
    have hl1 : (keF (lS o) b (lS o).length).length = (lS o).length := keF_len
    have hl2 : (taF (lS o) b (lS o).length).length = (lS o).length := taF_len
    have hfin := fun cs => hI.ow (by rw [hl1]; exact fun h5 => (hn h5).1) (by rw [hl2]; exact fun h5 => (hn h5).2) cs
    have hfin2 : ∀ cs, ∃ t, Ow (wr g h.length cs) [.agg [.int .i64 b, v1, v2]] [t] (fun c => h.length ≤ c) ∧ t = eFr b (lS o) := fun cs => ⟨_, hfin cs, rfl⟩
    (try (simp (disch := first | omega | (simp <;> omega) | fail) only [push_cast, ↓reduceIte, Nat.reduceEqDiff, Nat.reduceAdd, Nat.reduceMul, Nat.reduceSub, Nat.reduceLT, Int.reduceToNat, hb1, hb2, o1, o2, o3, o4, hpm, hw, reads, List.mem_cons, List.mem_append, List.not_mem_nil, nat_ff, or_self, or_false, false_or, not_false_eq_true]))
    all_goals (try exact hfin2 _)
    done

end Go.Proofs.YtdkgoaiodjokpaaGreat.M
