/-
  Own memory in the form in which proofs handle it; rules for contracts; strings in a row.
-/
import Derived.Test.YtbkcenkfecndjaaGreatDoorM10
namespace Go.Proofs.YtbkcenkfecndjaaGreatDoor.M
open Go Go.RowKit
set_option linter.unusedVariables false
set_option linter.unusedSimpArgs false

/-! ### the heap written out: what was there, and what is new -/
def cellsO : Option (Option AObj) → Option (List AV)
  | some (some (.cells cs)) => some cs
  | _ => none
theorem cells_eq {h : H} {b : Nat} : h.cells b = cellsO h[b]? := by
  unfold H.cells cellsO
  rfl
theorem cellsO_some {cs : List AV} : cellsO (some (some (.cells cs))) = some cs := (rfl)
theorem cells_h0 {h l : H} : H.cells (h ++ l) h.length = cellsO l[0]? := by
  rw [cells_eq, List.getElem?_append_right (Nat.le_refl _), Nat.sub_self]
theorem cells_hk {h l : H} {k : Nat} : H.cells (h ++ l) (h.length + k) = cellsO l[k]? := by
  rw [cells_eq, List.getElem?_append_right (by omega), Nat.add_sub_cancel_left]
theorem cells_old {h l : H} {b : Nat} (hb : b < h.length) : H.cells (h ++ l) b = H.cells h b := by
  rw [cells_eq, cells_eq, List.getElem?_append_left hb]
theorem app_last {α : Type} {p r : List α} {x : α} : (p ++ x :: r)[p.length]? = some x := by simp
theorem set_last {α : Type} {p r : List α} {x y : α} : (p ++ x :: r).set p.length y = p ++ y :: r := by simp
theorem wr_h0 {h l : H} {cs : List AV} : wr (h ++ l) h.length cs = h ++ l.set 0 (some (.cells cs)) := by
  unfold wr
  rw [List.set_append_right _ _ (Nat.le_refl _), Nat.sub_self]
theorem wr_hk {h l : H} {k : Nat} {cs : List AV} : wr (h ++ l) (h.length + k) cs = h ++ l.set k (some (.cells cs)) := by
  unfold wr
  rw [List.set_append_right _ _ (by omega), Nat.add_sub_cancel_left]
theorem killed_h0 {h l : H} : killed (h ++ l) h.length = h ++ l.set 0 none := by
  unfold killed
  rw [List.set_append_right _ _ (Nat.le_refl _), Nat.sub_self]
theorem killed_hk {h l : H} {k : Nat} : killed (h ++ l) (h.length + k) = h ++ l.set k none := by
  unfold killed
  rw [List.set_append_right _ _ (by omega), Nat.add_sub_cancel_left]
section
variable {pm : Nat → Prop} {e : Env} {h : H} {Q : AV → H → Prop}
def stC (h : H) (Q : AV → H → Prop) (sz : Nat) (v : AV) (b off : Nat) : Option (List AV) → Prop
  | some cs => (cellsOf v).length = sz ∧ off + sz ≤ cs.length ∧ (cellsOf v).all one = true ∧ Q unset (wr h b (over cs off (cellsOf v)))
  | none => False
theorem stC_some {sz b off : Nat} {v : AV} {cs : List AV} : stC h Q sz v b off (some cs) = ((cellsOf v).length = sz ∧ off + sz ≤ cs.length ∧ (cellsOf v).all one = true ∧ Q unset (wr h b (over cs off (cellsOf v)))) := (rfl)
def stA (pm : Nat → Prop) (h : H) (Q : AV → H → Prop) (sz : Nat) (v : AV) : AV → Prop
  | .adr b off => pm b ∧ stC h Q sz v b off (h.cells b)
  | _ => False
theorem ev1_store {sz : Nat} {a v : Opd} : ev1 pm e h Q (.store sz a v) = stA pm h Q sz (evO e v) (evO e a) := by
  simp only [ev1]
  generalize evO e a = x
  cases x with
  | adr b off =>
    simp only [stA, stC]
    cases H.cells h b <;> rfl
  | _ => rfl
theorem stA_adr {sz b off : Nat} {v : AV} : stA pm h Q sz v (.adr b off) = (pm b ∧ stC h Q sz v b off (h.cells b)) := (rfl)
def mkA (h : H) (Q : AV → H → Prop) (sz bytes : Nat) (zero : List AV) : AV → AV → Prop
  | .int _ n, .int _ m => 0 ≤ n ∧ n ≤ m ∧ m * bytes ≤ 140737488355328 ∧ Q (.sl h.length 0 sz n.toNat m.toNat) (h ++ [some (.cells (rows zero m.toNat))])
  | _, _ => False
theorem ev1_mks {sz by_ : Nat} {z : List AV} {l c : Opd} : ev1 pm e h Q (.mks sz by_ z l c) = mkA h Q sz by_ z (evO e l) (evO e c) := by
  simp only [ev1]
  generalize evO e l = x
  generalize evO e c = y
  cases x <;> cases y <;> rfl
theorem mkA_int {sz by_ : Nat} {z : List AV} {k k' : IntKind} {n m : Int} : mkA h Q sz by_ z (.int k n) (.int k' m) = (0 ≤ n ∧ n ≤ m ∧ m * by_ ≤ 140737488355328 ∧ Q (.sl h.length 0 sz n.toNat m.toNat) (h ++ [some (.cells (rows z m.toNat))])) := (rfl)
def bsA (h : H) (Q : AV → H → Prop) (sz len : Nat) : Option (List AV) → Prop
  | some cs => cs.all one = true ∧ Q (.sl h.length 0 sz len len) (h ++ [some (.cells cs)])
  | none => False
theorem ev1_bsl {sz len : Nat} {z : List AV} {ps : List (Nat × Nat × Opd)} : ev1 pm e h Q (.bsl sz len z ps) = bsA h Q sz len (fillA (rows z len) (ps.map fun (a, b, o) => (a, b, evO e o))) := by
  simp only [ev1]
  generalize fillA (rows z len) (ps.map fun (a, b, o) => (a, b, evO e o)) = o
  cases o <;> rfl
theorem bsA_some {sz len : Nat} {cs : List AV} : bsA h Q sz len (some cs) = (cs.all one = true ∧ Q (.sl h.length 0 sz len len) (h ++ [some (.cells cs)])) := (rfl)
def apC (pm : Nat → Prop) (h : H) (Q : AV → H → Prop) (sz bytes : Nat) (new : List AV) (n b off len kc : Nat) : Option (List AV) → Prop
  | some cs => off + len * sz ≤ cs.length ∧
          if n = 0 then Q (.sl b off sz len kc) h
          else if len + n ≤ kc then pm b ∧ off + (len + n) * sz ≤ cs.length ∧ Q (.sl b off sz (len + n) kc) (wr h b (over cs (off + len * sz) new))
          else pm b ∧ (len + n) * bytes ≤ 140737488355328 ∧ Q (.sl h.length 0 sz (len + n) (len + n)) (killed h b ++ [some (.cells ((cs.drop off).take (len * sz) ++ new))])
  | none => False
def apA (pm : Nat → Prop) (h : H) (Q : AV → H → Prop) (sz bytes : Nat) : Option (List AV × Nat) → AV → Prop
  | some (new, n), .nils => if n = 0 then Q .nils h else n * bytes ≤ 140737488355328 ∧ Q (.sl h.length 0 sz n n) (h ++ [some (.cells new)])
  | some (new, n), .sl b off sz' len kc => sz = sz' ∧ apC pm h Q sz bytes new n b off len kc (h.cells b)
  | _, _ => False
theorem ev1_app {st : Bool} {sz by_ : Nat} {a b : Opd} : ev1 pm e h Q (.app st sz by_ a b) = apA pm h Q sz by_ (srcCells h st sz (evO e b)) (evO e a) := by
  simp only [ev1]
  generalize srcCells h st sz (evO e b) = o
  generalize evO e a = x
  cases o with
  | none => rfl
  | some o =>
    obtain ⟨new, n⟩ := o
    cases x with
    | sl b off sz' len kc =>
      simp only [apA, apC]
      cases H.cells h b <;> rfl
    | ro s cs l => simp [apA]
    | _ => rfl
theorem apA_nil_0 {sz by_ n : Nat} {new : List AV} (hn : n = 0) : apA pm h Q sz by_ (some (new, n)) .nils = Q .nils h := if_pos hn
theorem apA_nil {sz by_ n : Nat} {new : List AV} (hn : n ≠ 0) : apA pm h Q sz by_ (some (new, n)) .nils = (n * by_ ≤ 140737488355328 ∧ Q (.sl h.length 0 sz n n) (h ++ [some (.cells new)])) := if_neg hn
theorem apA_sl {sz by_ n b off len kc : Nat} {new : List AV} : apA pm h Q sz by_ (some (new, n)) (.sl b off sz len kc) = apC pm h Q sz by_ new n b off len kc (h.cells b) := by
  simp [apA]
theorem apC_0 {sz by_ n b off len kc : Nat} {new cs : List AV} (hn : n = 0) : apC pm h Q sz by_ new n b off len kc (some cs) = (off + len * sz ≤ cs.length ∧ Q (.sl b off sz len kc) h) := by
  simp only [apC, if_pos hn]
theorem apC_fit {sz by_ n b off len kc : Nat} {new cs : List AV} (hn : n ≠ 0) (hf : len + n ≤ kc) : apC pm h Q sz by_ new n b off len kc (some cs) =
    (off + len * sz ≤ cs.length ∧ pm b ∧ off + (len + n) * sz ≤ cs.length ∧ Q (.sl b off sz (len + n) kc) (wr h b (over cs (off + len * sz) new))) := by
  simp only [apC, if_neg hn, if_pos hf]
theorem apC_grow {sz by_ n b off len kc : Nat} {new cs : List AV} (hn : n ≠ 0) (hf : kc < len + n) : apC pm h Q sz by_ new n b off len kc (some cs) =
    (off + len * sz ≤ cs.length ∧ pm b ∧ (len + n) * by_ ≤ 140737488355328 ∧ Q (.sl h.length 0 sz (len + n) (len + n)) (killed h b ++ [some (.cells ((cs.drop off).take (len * sz) ++ new))])) := by
  simp only [apC, if_neg hn, if_neg (Nat.not_le.2 hf)]
theorem src_nils {sz : Nat} : srcCells h false sz .nils = some ([], 0) := (rfl)
theorem src_str {s : List UInt8} : srcCells h true 1 (.str s) = some (s.map (fun c => .int .u8 c.toNat), s.length) := (rfl)
theorem src_ro {sz len : Nat} {cs : List AV} (hl : len * sz ≤ cs.length) : srcCells h false sz (.ro sz cs len) = some (cs.take (len * sz), len) := if_pos ⟨rfl, rfl, hl⟩
theorem src_sl {sz b off len kc : Nat} : srcCells h false sz (.sl b off sz len kc) = (h.cells b).bind fun cs => if off + len * sz ≤ cs.length then some ((cs.drop off).take (len * sz), len) else none := if_pos ⟨rfl, rfl⟩
end
theorem rows_1 {x : AV} {n : Nat} : rows [x] n = List.replicate n x := by
  induction n with
  | zero => rfl
  | succ n ih =>
    unfold rows at ih ⊢
    rw [List.range_succ, List.flatMap_append, ih, List.replicate_succ']
    rfl
theorem cellsOf_agg {cs : List AV} : cellsOf (.agg cs) = cs := (rfl)
theorem cellsOf_int {k : IntKind} {n : Int} : cellsOf (.int k n) = [.int k n] := (rfl)
theorem cellsOf_bool {b : Bool} : cellsOf (.bool b) = [.bool b] := (rfl)
theorem cellsOf_str {s : List UInt8} : cellsOf (.str s) = [.str s] := (rfl)
theorem cellsOf_nils : cellsOf .nils = [.nils] := (rfl)
theorem cellsOf_sl {b o s l k : Nat} : cellsOf (.sl b o s l k) = [.sl b o s l k] := (rfl)
theorem cellsOf_adr {b o : Nat} : cellsOf (.adr b o) = [.adr b o] := (rfl)
theorem cellsOf_ro {s l : Nat} {cs : List AV} : cellsOf (.ro s cs l) = [.ro s cs l] := (rfl)
theorem one_int {k : IntKind} {n : Int} : one (.int k n) = true := (rfl)
theorem one_bool {b : Bool} : one (.bool b) = true := (rfl)
theorem one_str {s : List UInt8} : one (.str s) = true := (rfl)
theorem one_nils : one .nils = true := (rfl)
theorem one_sl {b o s l k : Nat} : one (.sl b o s l k) = true := (rfl)
theorem one_adr {b o : Nat} : one (.adr b o) = true := (rfl)
theorem one_ro {s l : Nat} {cs : List AV} : one (.ro s cs l) = true := (rfl)

theorem over_set {cs : List AV} {off : Nat} {x : AV} (h : off < cs.length) : over cs off [x] = cs.set off x := by
  unfold over
  rw [List.set_eq_take_append_cons_drop, if_pos h]
  simp
theorem over_all {cs new : List AV} (h : new.length = cs.length) : over cs 0 new = new := by
  unfold over
  rw [List.drop_eq_nil_of_le (by omega)]
  simp
theorem ld_t1 {x0 : AV} {l : List AV} : ld true 1 (x0 :: l) 0 = some (.agg [x0]) := by
  rw [ld_t (by simp)]
  simp
theorem ld_t2 {x0 x1 : AV} {l : List AV} : ld true 2 (x0 :: x1 :: l) 0 = some (.agg [x0, x1]) := by
  rw [ld_t (by simp)]
  simp
theorem ld_t3 {x0 x1 x2 : AV} {l : List AV} : ld true 3 (x0 :: x1 :: x2 :: l) 0 = some (.agg [x0, x1, x2]) := by
  rw [ld_t (by simp)]
  simp
theorem ld_t4 {x0 x1 x2 x3 : AV} {l : List AV} : ld true 4 (x0 :: x1 :: x2 :: x3 :: l) 0 = some (.agg [x0, x1, x2, x3]) := by
  rw [ld_t (by simp)]
  simp
theorem ld_t5 {x0 x1 x2 x3 x4 : AV} {l : List AV} : ld true 5 (x0 :: x1 :: x2 :: x3 :: x4 :: l) 0 = some (.agg [x0, x1, x2, x3, x4]) := by
  rw [ld_t (by simp)]
  simp
theorem ld_t6 {x0 x1 x2 x3 x4 x5 : AV} {l : List AV} : ld true 6 (x0 :: x1 :: x2 :: x3 :: x4 :: x5 :: l) 0 = some (.agg [x0, x1, x2, x3, x4, x5]) := by
  rw [ld_t (by simp)]
  simp
theorem ld_t7 {x0 x1 x2 x3 x4 x5 x6 : AV} {l : List AV} : ld true 7 (x0 :: x1 :: x2 :: x3 :: x4 :: x5 :: x6 :: l) 0 = some (.agg [x0, x1, x2, x3, x4, x5, x6]) := by
  rw [ld_t (by simp)]
  simp
theorem ld_t8 {x0 x1 x2 x3 x4 x5 x6 x7 : AV} {l : List AV} : ld true 8 (x0 :: x1 :: x2 :: x3 :: x4 :: x5 :: x6 :: x7 :: l) 0 = some (.agg [x0, x1, x2, x3, x4, x5, x6, x7]) := by
  rw [ld_t (by simp)]
  simp
theorem ld_t9 {x0 x1 x2 x3 x4 x5 x6 x7 x8 : AV} {l : List AV} : ld true 9 (x0 :: x1 :: x2 :: x3 :: x4 :: x5 :: x6 :: x7 :: x8 :: l) 0 = some (.agg [x0, x1, x2, x3, x4, x5, x6, x7, x8]) := by
  rw [ld_t (by simp)]
  simp
theorem ld_t10 {x0 x1 x2 x3 x4 x5 x6 x7 x8 x9 : AV} {l : List AV} : ld true 10 (x0 :: x1 :: x2 :: x3 :: x4 :: x5 :: x6 :: x7 :: x8 :: x9 :: l) 0 = some (.agg [x0, x1, x2, x3, x4, x5, x6, x7, x8, x9]) := by
  rw [ld_t (by simp)]
  simp
theorem ld_t11 {x0 x1 x2 x3 x4 x5 x6 x7 x8 x9 x10 : AV} {l : List AV} : ld true 11 (x0 :: x1 :: x2 :: x3 :: x4 :: x5 :: x6 :: x7 :: x8 :: x9 :: x10 :: l) 0 = some (.agg [x0, x1, x2, x3, x4, x5, x6, x7, x8, x9, x10]) := by
  rw [ld_t (by simp)]
  simp
theorem ld_t12 {x0 x1 x2 x3 x4 x5 x6 x7 x8 x9 x10 x11 : AV} {l : List AV} : ld true 12 (x0 :: x1 :: x2 :: x3 :: x4 :: x5 :: x6 :: x7 :: x8 :: x9 :: x10 :: x11 :: l) 0 = some (.agg [x0, x1, x2, x3, x4, x5, x6, x7, x8, x9, x10, x11]) := by
  rw [ld_t (by simp)]
  simp
/-- A row is filled from the front. -/
def fill {α : Type} (f : α → AV) (l : List α) (z : AV) (i : Nat) : List AV := (l.take i).map f ++ List.replicate (l.length - i) z
theorem fill_0 {α : Type} {f : α → AV} {l : List α} {z : AV} : fill f l z 0 = List.replicate l.length z := by simp [fill]
theorem fill_all {α : Type} {f : α → AV} {l : List α} {z : AV} {i : Nat} (hi : l.length ≤ i) : fill f l z i = l.map f := by
  unfold fill
  rw [List.take_of_length_le hi, show l.length - i = 0 by omega]
  simp
theorem fill_len {α : Type} {f : α → AV} {l : List α} {z : AV} {i : Nat} (hi : i ≤ l.length) : (fill f l z i).length = l.length := by
  unfold fill
  simp
  omega
theorem fill_next {α : Type} {f : α → AV} {l : List α} {z : AV} {i : Nat} {x : AV} {d : α} (hi : i < l.length) (hx : x = f (l.getD i d)) : over (fill f l z i) i [x] = fill f l z (i + 1) := by
  subst hx
  unfold over fill
  have h1 : ((l.take i).map f).length = i := by simp; omega
  have h2 : l.length - i = (l.length - (i + 1)) + 1 := by omega
  rw [h2, List.replicate_succ, List.take_append_of_le_length (by omega), List.take_of_length_le (by omega), List.take_add_one]
  have : i + 1 = ((l.take i).map f).length + 1 := by omega
  simp only [List.length_cons, List.length_nil, Nat.zero_add]
  rw [List.drop_append, List.drop_eq_nil_of_le (by omega), h1]
  have e1 : l[i]?.toList = [l.getD i d] := by simp [hi]
  rw [e1, List.map_append, show i + 1 - i = 0 + 1 by omega, List.drop_succ_cons, List.drop_zero, List.nil_append]
  rfl

theorem rows_zero {z : List AV} : rows z 0 = [] := (rfl)
theorem fillA_nil {cs : List AV} : fillA cs [] = some cs := (rfl)
theorem fillA_int {z : AV} {k : IntKind} {n : Int} : fillA (List.replicate 1 z) [(0, 1, .int k n)] = some [.int k n] := (rfl)
theorem fillA_str {z : AV} {s : List UInt8} : fillA (List.replicate 1 z) [(0, 1, .str s)] = some [.str s] := (rfl)
theorem fillA_nils {z : AV} : fillA (List.replicate 1 z) [(0, 1, .nils)] = some [.nils] := (rfl)
theorem fillA_sl {z : AV} {b o s l k : Nat} : fillA (List.replicate 1 z) [(0, 1, .sl b o s l k)] = some [.sl b o s l k] := (rfl)
theorem fillA_ro {z : AV} {s l : Nat} {cs : List AV} : fillA (List.replicate 1 z) [(0, 1, .ro s cs l)] = some [.ro s cs l] := (rfl)
/-! ### what plain arithmetic settles -/
theorem or_le {p : Prop} {n b : Nat} (h : n ≤ b) : (p ∨ n ≤ b) = True := eq_true (.inr h)
theorem le_tt {a b : Nat} (h : a ≤ b) : (a ≤ b) = True := eq_true h
theorem lt_tt {a b : Nat} (h : a < b) : (a < b) = True := eq_true h
theorem ile_tt {a b : Int} (h : a ≤ b) : (a ≤ b) = True := eq_true h
theorem ilt_tt {a b : Int} (h : a < b) : (a < b) = True := eq_true h
theorem ile_ff {a b : Int} (h : b < a) : (a ≤ b) = False := eq_false (by omega)
theorem ilt_ff {a b : Int} (h : b ≤ a) : (a < b) = False := eq_false (by omega)
theorem ieq_tt {a b : Int} (h : a = b) : (a = b) = True := eq_true h
theorem ieq_ff {a b : Int} (h : a ≠ b) : (a = b) = False := eq_false h
theorem tmod_e {a b : Int} (h : 0 ≤ a) : a.tmod b = a % b := Int.tmod_eq_emod_of_nonneg h
theorem tdiv_e {a b : Int} (h : 0 ≤ a) : a.tdiv b = a / b := Int.tdiv_eq_ediv_of_nonneg h
theorem mul_bd {x y a b : Int} (h1 : 0 ≤ x) (h2 : x ≤ a) (h3 : 0 ≤ y) (h4 : y ≤ b) : 0 ≤ x * y ∧ x * y ≤ a * b :=
  ⟨Int.mul_nonneg h1 h3, Int.mul_le_mul h2 h4 h3 (by omega)⟩
theorem int_eq {k : IntKind} {a b : Int} : (AV.int k a = AV.int k b) = (a = b) := by simp
theorem bool_eq {a b : Bool} : (AV.bool a = AV.bool b) = (a = b) := by simp

/-! ### contracts -/
theorem Fn.of {P : Program} {f : FuncId} {args : List AV} {r : AV} (hr : Free r) (hc : ∀ h, Call P f args h Nowhere (fun x _ => x = r)) : Fn P f args (· = r) := fun h =>
  Call.gc ((hc h).mono (fun x _ hx => ⟨hx, by rw [hx]; exact hr⟩) (fun _ _ h => h))
theorem Fn.froze {P : Program} {f : FuncId} {args : List AV} {r : AV} (hc : ∀ h, Call P f args h Nowhere (fun x h' => Vw h' h.length x r)) : Fn P f args (· = r) := fun h =>
  Call.freeze ((hc h).mono (fun x h' hx => ⟨r, hx, rfl⟩) (fun _ _ h => h))
theorem Fn.call {P : Program} {f : FuncId} {args : List AV} {r : AV} {h : H} {pm : Nat → Prop} {Q : AV → H → Prop} (hf : Fn P f args (· = r)) (hQ : Q r h) : Call P f args h pm Q :=
  hf.use (fun x hx => by rw [hx]; exact hQ)

/-! ### strings in a row -/
abbrev Str := List UInt8
def eS : Option (List Str) → AV
  | none => .nils
  | some l => .ro 1 (l.map .str) l.length
def lS : Option (List Str) → List Str
  | none => []
  | some l => l
theorem lenA_eS {l : Option (List Str)} : lenA (eS l) = some (.int .i64 (lS l).length) := by cases l <;> rfl
theorem iaddr_eS {l : Option (List Str)} {k : IntKind} {n : Int} (h1 : 0 ≤ n) (h2 : n < (lS l).length) : iaddrA 1 (eS l) (.int k n) = some (.rad ((lS l).map .str) n.toNat) := by
  cases l with
  | none => simp [lS] at h2; omega
  | some l => exact (iaddrA_ro h1 h2).trans (by simp [lS])
theorem get_S {l : List Str} {i : Nat} (hi : i < l.length) : (l.map AV.str)[i]? = some (.str (l.getD i [])) := by simp [hi]
theorem one_eS {l : Option (List Str)} : one (eS l) = true := by cases l <;> rfl
theorem cellsOf_eS {l : Option (List Str)} : cellsOf (eS l) = [eS l] := by cases l <;> rfl
theorem free_eS {l : Option (List Str)} : Free (eS l) := by
  cases l with
  | none => exact free_nils
  | some l => exact free_ro (free_map_ fun _ => free_str)
theorem ok_eS {l : Option (List Str)} (h : OkV (eS l)) : (lS l).length ≤ 9223372036854775807 := by
  cases l with
  | none => simp [lS]
  | some l => exact h.ro.1
theorem ok_eS_str {l : Option (List Str)} (h : OkV (eS l)) : ∀ s ∈ lS l, s.length ≤ 9223372036854775807 := by
  cases l with
  | none => intro s hs; simp [lS] at hs
  | some l => exact fun s hs => (h.ro.2 _ (List.mem_map_of_mem hs)).str
theorem vw_all {h : H} {n b sz len kc : Nat} {cs : List AV} (hb : n ≤ b) (hc : h.cells b = some cs) (hl : cs.length = len * sz) (h1 : cs.all one = true) (hf : ∀ c ∈ cs, Free c) : Vw h n (.sl b 0 sz len kc) (.ro sz cs len) :=
  .sl hb hc (by omega) hl h1 (fun i y t hy ht => by
    rw [Nat.zero_add, ht] at hy
    injection hy with hy
    subst hy
    exact .free (hf _ (List.mem_of_getElem? ht)))
theorem one_map {α : Type} {f : α → AV} {l : List α} (hf : ∀ a, one (f a) = true) : (l.map f).all one = true := by
  rw [List.all_map, List.all_eq_true]
  exact fun a _ => hf a
/-! ### numbers in a row -/
def eI : Option (List Int) → AV
  | none => .nils
  | some l => .ro 1 (l.map (.int .i64)) l.length
def lI : Option (List Int) → List Int
  | none => []
  | some l => l
theorem lenA_eI {l : Option (List Int)} : lenA (eI l) = some (.int .i64 (lI l).length) := by cases l <;> rfl
theorem iaddr_eI {l : Option (List Int)} {k : IntKind} {n : Int} (h1 : 0 ≤ n) (h2 : n < (lI l).length) : iaddrA 1 (eI l) (.int k n) = some (.rad ((lI l).map (.int .i64)) n.toNat) := by
  cases l with
  | none => simp [lI] at h2; omega
  | some l => exact (iaddrA_ro h1 h2).trans (by simp [lI])
theorem get_I {l : List Int} {i : Nat} (hi : i < l.length) : (l.map (AV.int .i64))[i]? = some (.int .i64 (l.getD i 0)) := by simp [hi]
theorem one_eI {l : Option (List Int)} : one (eI l) = true := by cases l <;> rfl
theorem cellsOf_eI {l : Option (List Int)} : cellsOf (eI l) = [eI l] := by cases l <;> rfl
theorem free_eI {l : Option (List Int)} : Free (eI l) := by
  cases l with
  | none => exact free_nils
  | some l => exact free_ro (free_map_ fun _ => free_int)
theorem ok_eI {l : Option (List Int)} (h : OkV (eI l)) : (lI l).length ≤ 9223372036854775807 := by
  cases l with
  | none => simp [lI]
  | some l => exact h.ro.1
def tkeI (n : Nat) (a : Option (List Int)) : Option (List Int) := a.map (·.take n)
def dreI (n : Nat) (a : Option (List Int)) : Option (List Int) := a.map (·.drop n)
@[simp] theorem lI_tk {n : Nat} {a : Option (List Int)} : lI (tkeI n a) = (lI a).take n := by cases a <;> simp [tkeI, lI]
@[simp] theorem lI_dr {n : Nat} {a : Option (List Int)} : lI (dreI n a) = (lI a).drop n := by cases a <;> simp [dreI, lI]
theorem slc_eI_hi {k : IntKind} {n : Int} {a : Option (List Int)} (h1 : 0 ≤ n) (h2 : n ≤ (lI a).length) : slcA 1 none (some (.int k n)) (eI a) = some (eI (tkeI n.toNat a)) := by
  cases a with
  | none =>
    simp [lI] at h2
    have : n = 0 := by omega
    subst this
    rfl
  | some l =>
    have h3 : n ≤ l.length := h2
    simp only [eI, tkeI, Option.map_some, slcA_ro, bndA_int h1 h3, bndA_none, Option.bind_some]
    congr 2
    · simp
    · simp
      omega
theorem slc_eI_lo {k : IntKind} {n : Int} {a : Option (List Int)} (h1 : 0 ≤ n) (h2 : n ≤ (lI a).length) : slcA 1 (some (.int k n)) none (eI a) = some (eI (dreI n.toNat a)) := by
  cases a with
  | none =>
    simp [lI] at h2
    have : n = 0 := by omega
    subst this
    rfl
  | some l =>
    have h3 : n ≤ l.length := h2
    simp only [eI, dreI, Option.map_some, slcA_ro, bndA_int h1 h3, bndA_none, Option.bind_some]
    congr 2
    · rw [Nat.mul_one, Nat.mul_one, ← List.map_drop, List.take_of_length_le (by simp)]
    · simp
def tkeS (n : Nat) (a : Option (List Str)) : Option (List Str) := a.map (·.take n)
def dreS (n : Nat) (a : Option (List Str)) : Option (List Str) := a.map (·.drop n)
@[simp] theorem lS_tk {n : Nat} {a : Option (List Str)} : lS (tkeS n a) = (lS a).take n := by cases a <;> simp [tkeS, lS]
@[simp] theorem lS_dr {n : Nat} {a : Option (List Str)} : lS (dreS n a) = (lS a).drop n := by cases a <;> simp [dreS, lS]
theorem slc_eS_hi {k : IntKind} {n : Int} {a : Option (List Str)} (h1 : 0 ≤ n) (h2 : n ≤ (lS a).length) : slcA 1 none (some (.int k n)) (eS a) = some (eS (tkeS n.toNat a)) := by
  cases a with
  | none =>
    simp [lS] at h2
    have : n = 0 := by omega
    subst this
    rfl
  | some l =>
    have h3 : n ≤ l.length := h2
    simp only [eS, tkeS, Option.map_some, slcA_ro, bndA_int h1 h3, bndA_none, Option.bind_some]
    congr 2
    · simp
    · simp
      omega
theorem slc_eS_lo {k : IntKind} {n : Int} {a : Option (List Str)} (h1 : 0 ≤ n) (h2 : n ≤ (lS a).length) : slcA 1 (some (.int k n)) none (eS a) = some (eS (dreS n.toNat a)) := by
  cases a with
  | none =>
    simp [lS] at h2
    have : n = 0 := by omega
    subst this
    rfl
  | some l =>
    have h3 : n ≤ l.length := h2
    simp only [eS, dreS, Option.map_some, slcA_ro, bndA_int h1 h3, bndA_none, Option.bind_some]
    congr 2
    · rw [Nat.mul_one, Nat.mul_one, ← List.map_drop, List.take_of_length_le (by simp)]
    · simp
/-! ### a row of rows of cells -/
theorem flatMap_len {α : Type} {f : α → List AV} {w : Nat} (hf : ∀ a, (f a).length = w) : ∀ l : List α, (l.flatMap f).length = l.length * w
  | [] => by simp
  | a :: l => by rw [List.flatMap_cons, List.length_append, hf, flatMap_len hf l, List.length_cons, Nat.succ_mul]; omega
theorem flatMap_get {α : Type} {f : α → List AV} {w : Nat} (hf : ∀ a, (f a).length = w) (d : α) : ∀ {l : List α} {i k : Nat}, i < l.length → k < w → (l.flatMap f)[i * w + k]? = (f (l.getD i d))[k]?
  | [], i, k, hi, _ => by simp at hi
  | a :: l, 0, k, _, hk => by
    rw [List.flatMap_cons, List.getElem?_append_left (by rw [hf]; omega)]
    simp
  | a :: l, i + 1, k, hi, hk => by
    rw [List.flatMap_cons, List.getElem?_append_right (by rw [hf, Nat.succ_mul]; omega), hf]
    have := flatMap_get hf d (l := l) (i := i) (k := k) (by simpa using hi) hk
    rw [show (i + 1) * w + k - w = i * w + k by rw [Nat.succ_mul]; omega, this]
    simp
theorem flatMap_row {α : Type} {f : α → List AV} {w : Nat} (hf : ∀ a, (f a).length = w) (d : α) {l : List α} {i : Nat} (hi : i < l.length) : ((l.flatMap f).drop (i * w)).take w = f (l.getD i d) := by
  apply List.ext_getElem?
  intro k
  rw [List.getElem?_take]
  split
  · rename_i hk
    rw [List.getElem?_drop, flatMap_get hf d hi hk]
  · rw [List.getElem?_eq_none]
    rw [hf]
    omega
theorem ld_row {α : Type} {f : α → List AV} {w : Nat} (hf : ∀ a, (f a).length = w) (d : α) {l : List α} {i : Nat} (hi : i < l.length) : ld true w (l.flatMap f) (i * w) = some (.agg (f (l.getD i d))) := by
  rw [ld_t, flatMap_row hf d hi]
  rw [flatMap_len hf]
  have : (i + 1) * w ≤ l.length * w := Nat.mul_le_mul_right _ hi
  rw [Nat.succ_mul] at this
  exact this
/-- A row of rows is filled from the front. -/
def fillF {α : Type} (f : α → List AV) (l : List α) (z : List AV) (i : Nat) : List AV := (l.take i).flatMap f ++ rows z (l.length - i)
theorem fillF_0 {α : Type} {f : α → List AV} {l : List α} {z : List AV} : fillF f l z 0 = rows z l.length := by simp [fillF]
theorem fillF_all {α : Type} {f : α → List AV} {l : List α} {z : List AV} {i : Nat} (hi : l.length ≤ i) : fillF f l z i = l.flatMap f := by
  unfold fillF
  rw [List.take_of_length_le hi, show l.length - i = 0 by omega]
  simp [rows]
theorem fillF_len {α : Type} {f : α → List AV} {w : Nat} (hf : ∀ a, (f a).length = w) {l : List α} {z : List AV} (hz : z.length = w) {i : Nat} (hi : i ≤ l.length) : (fillF f l z i).length = l.length * w := by
  unfold fillF
  rw [List.length_append, flatMap_len hf, rows_len, hz, ← Nat.add_mul]
  congr 1
  rw [List.length_take]
  omega
theorem rows_cons {z : List AV} {n : Nat} : rows z (n + 1) = z ++ rows z n := by
  unfold rows
  rw [List.range_succ_eq_map, List.flatMap_cons, List.flatMap_map]
theorem fillF_next {α : Type} {f : α → List AV} {w : Nat} (hf : ∀ a, (f a).length = w) {l : List α} {z : List AV} (hz : z.length = w) {i : Nat} {x : List AV} {d : α} (hi : i < l.length) (hx : x = f (l.getD i d)) : over (fillF f l z i) (i * w) x = fillF f l z (i + 1) := by
  have hxl : x.length = w := by rw [hx, hf]
  have h1 : ((l.take i).flatMap f).length = i * w := by rw [flatMap_len hf, List.length_take, Nat.min_eq_left (by omega)]
  have e1 : l[i]?.toList = [l.getD i d] := by simp [hi]
  unfold over fillF
  rw [hxl, show l.length - i = (l.length - (i + 1)) + 1 by omega, rows_cons, List.take_append_of_le_length (by omega), List.take_of_length_le (by omega), List.take_add_one, e1, List.flatMap_append]
  rw [List.drop_append, List.drop_eq_nil_of_le (by omega), h1, show i * w + w - i * w = w by omega, List.drop_append, List.drop_eq_nil_of_le (by omega), hz, Nat.sub_self, hx]
  simp
theorem okV_0 {x : AV} {l : List AV} (h : OkArgs (x :: l)) : OkV x := h.get (i := 0) rfl
theorem okV_1 {x y : AV} {l : List AV} (h : OkArgs (x :: y :: l)) : OkV y := h.get (i := 1) rfl
theorem okV_2 {x y z : AV} {l : List AV} (h : OkArgs (x :: y :: z :: l)) : OkV z := h.get (i := 2) rfl

/-! ### the engine's set -/
attribute [push_cast] lI_tk lI_dr lS_tk lS_dr slc_eI_hi slc_eI_lo slc_eS_hi slc_eS_lo
attribute [push_cast] Bool.false_eq_true eq_self ite_true ite_false
attribute [push_cast] rows_zero fillA_nil fillA_int fillA_str fillA_nils fillA_sl fillA_ro
attribute [push_cast] cells_old app_last set_last
attribute [push_cast] tmod_e tdiv_e
attribute [push_cast] lenA_eI iaddr_eI get_I one_eI cellsOf_eI
attribute [push_cast] T_reg T_dreg T_seq T_block T_cond T_exit T_ret T_skip K_nil K_s_n K_s_x K_s_r K_k_n K_k_x K_k_r LQ_n LQ_x LQ_r FQ_n FQ_x FQ_r TO_nil TO_g TO_m TO_call TO_callv
attribute [push_cast] TD_done TD_both TDf_g TDn_g TDn_m TDn_call TDn_callv kc_eq kd_eq goV_some goB_bool goC_true goC_false gdO_tt gdO_tf gdO_ft gdO_ff gdO_u gdF_u gdF_tt gdF_tf gdF_ft
attribute [push_cast] gdF_ff gdF_ntt gdF_nff cnd_true cnd_false callF_fn endC_some evO_t evO_c put_some put_none eset Pins_nil Pins_cons sets_nil sets_cons abin_add abin_sub abin_mul
attribute [push_cast] abin_quo abin_rem abin_and abin_or abin_xor abin_andNot abin_shl abin_shr abin_eql abin_neq abin_lss abin_leq abin_gtr abin_geq abin_s_eql abin_s_neq abin_s_lss
attribute [push_cast] abin_s_leq abin_s_gtr abin_s_geq abin_s_add wrap_ok tn_m1 tn_p1 tn_sub tn_add ev0_mov ev0_pick pickA_t pickA_f ev0_bin ev0_beq beqA_t beqA_f ev0_seq seqA_nil seqA_ro
attribute [push_cast] seqA_sl ev0_un aun_not aun_neg aun_xor ev0_conv convA_int ev0_cid cidA_str ev0_nchk nchkA_adr nchkA_rad nchkA_fn ev0_faddr faddrA_adr faddrA_rad ev0_fld fldA_agg
attribute [push_cast] ev0_iaddr iaddrA_sl iaddrA_ro ev0_sidx sidxA_str bndA_none bndA_int ev0_slc slcA_nil slcA_sl slcA_ro ev0_sstr sstrA_str ev0_len lenA_nil lenA_sl lenA_ro ev0_lens
attribute [push_cast] lensA_str ev0_load loadA_adr loadA_rad loadAdr_adr ld_f ev0_ext extA_tup ev0_mkfn ev0_bld ev1_box ev1_alloc Ends_0 Ends_0n Ends_1 Ends_2 Ends_3 Ends_4 Ends_c TO_mov
attribute [push_cast] TO_pick TO_conv TO_cid TO_cbs TO_nchk TO_faddr TO_fld TO_iaddr TO_sidx TO_slc TO_sstr TO_len TO_lens TO_mn TO_mx TO_load TO_ext TO_mkfn TO_mkif TO_look TO_bld TO_un
attribute [push_cast] TO_b_add TO_b_sub TO_b_mul TO_b_quo TO_b_rem TO_b_and TO_b_or TO_b_xor TO_b_shl TO_b_shr TO_b_andNot TO_b_eql TO_b_neq TO_b_lss TO_b_leq TO_b_gtr TO_b_geq TO_beq
attribute [push_cast] TO_seqn TO_ieq TDf_mov TDn_mov TDf_pick TDn_pick TDf_conv TDn_conv TDf_cid TDn_cid TDf_cbs TDn_cbs TDf_nchk TDn_nchk TDf_faddr TDn_faddr TDf_fld TDn_fld TDf_iaddr
attribute [push_cast] TDn_iaddr TDf_sidx TDn_sidx TDf_slc TDn_slc TDf_sstr TDn_sstr TDf_len TDn_len TDf_lens TDn_lens TDf_mn TDn_mn TDf_mx TDn_mx TDf_load TDn_load TDf_ext TDn_ext TDf_mkfn
attribute [push_cast] TDn_mkfn TDf_mkif TDn_mkif TDf_look TDn_look TDf_bld TDn_bld TDf_un TDn_un TDf_b_add TDn_b_add TDf_b_sub TDn_b_sub TDf_b_mul TDn_b_mul TDf_b_quo TDn_b_quo TDf_b_rem
attribute [push_cast] TDn_b_rem TDf_b_and TDn_b_and TDf_b_or TDn_b_or TDf_b_xor TDn_b_xor TDf_b_shl TDn_b_shl TDf_b_shr TDn_b_shr TDf_b_andNot TDn_b_andNot TDf_b_eql TDn_b_eql TDf_b_neq
attribute [push_cast] TDn_b_neq TDf_b_lss TDn_b_lss TDf_b_leq TDn_b_leq TDf_b_gtr TDn_b_gtr TDf_b_geq TDn_b_geq TDf_beq TDn_beq TDf_seqn TDn_seqn TDf_ieq TDn_ieq cells_h0 cells_hk cellsO_some
attribute [push_cast] wr_h0 wr_hk killed_h0 killed_hk stC_some ev1_store stA_adr ev1_mks mkA_int ev1_bsl bsA_some ev1_app apA_nil_0 apA_nil apA_sl apC_0 apC_fit apC_grow src_nils src_str
attribute [push_cast] src_ro src_sl rows_1 cellsOf_agg cellsOf_int cellsOf_bool cellsOf_str cellsOf_nils cellsOf_sl cellsOf_adr cellsOf_ro one_int one_bool one_str one_nils one_sl one_adr
attribute [push_cast] one_ro over_set over_all ld_t1 ld_t2 ld_t3 ld_t4 ld_t5 ld_t6 ld_t7 ld_t8 ld_t9 ld_t10 ld_t11 ld_t12 List.all_cons List.all_nil Bool.and_self List.length_append
attribute [push_cast] List.length_cons List.length_nil List.append_assoc List.set_cons_zero List.set_cons_succ lenA_eS iaddr_eS get_S one_eS cellsOf_eS or_le le_tt lt_tt ile_tt ilt_tt
attribute [push_cast] ile_ff ilt_ff ieq_tt ieq_ff int_eq bool_eq decide_true decide_false and_self or_true true_or Bool.true_and Bool.false_and Bool.and_true Bool.and_false Bool.true_or
attribute [push_cast] Bool.false_or Bool.or_true Bool.or_false Nat.mul_one Nat.one_mul Nat.zero_mul Nat.add_zero Nat.zero_add Int.toNat_natCast Int.toNat_zero List.map_cons List.map_nil
attribute [push_cast] List.cons_append List.nil_append List.append_nil Option.map_some Option.map_none Option.bind_some Bool.not_true Bool.not_false Bool.not_not beq_self_eq_true beq_true
attribute [push_cast] beq_false true_and and_true List.getElem?_cons_zero List.getElem?_cons_succ
end Go.Proofs.YtbkcenkfecndjaaGreatDoor.M
