/-
  What the functions return.
-/
import Derived.Test.YtbkcenkfecndjaaGreatDoorFkza
import Derived.Test.YtbkcenkfecndjaaGreatDoorCkz
namespace Go.Proofs.YtbkcenkfecndjaaGreatDoor.M
open Go Go.RowKit
set_option linter.unusedVariables false
set_option linter.unusedSimpArgs false
set_option maxRecDepth 4000

theorem c_laws_big (a b : Option (List UInt8)) (ha : (lU a).length ≤ 9223372036854775807) : Fn Tryz.prog 4 [eU a, eU b] (· = .bool (decide (1048576 < ((lU a).length : Int)) || decide (1048576 - ((lU a).length : Int) < ((lU b).length : Int)))) := by
  refine Fn.of free_bool fun h => ?_
  refine enter (by kernel_rfl) e4 (by kernel_rfl) rfl fun hok => ?_
  simp only [r4, initEnv_2]
  by_cases h1 : 1048576 < ((lU a).length : Int)
  · (try (simp (disch := first | omega | (simp <;> omega) | fail) only [push_cast, ↓reduceIte, Nat.reduceEqDiff, Nat.reduceAdd, Nat.reduceMul, Nat.reduceSub, Nat.reduceLT, Int.reduceToNat, h1]))
    all_goals (try simp [h1])
  · (try (simp (disch := first | omega | (simp <;> omega) | fail) only [push_cast, ↓reduceIte, Nat.reduceEqDiff, Nat.reduceAdd, Nat.reduceMul, Nat.reduceSub, Nat.reduceLT, Int.reduceToNat, h1]))
    (first | refine goC_split (fun hc => ?_) (fun hc => ?_) | refine cnd_split (fun hc => ?_) (fun hc => ?_)) <;> ((try (simp (disch := first | omega | (simp <;> omega) | fail) only [push_cast, ↓reduceIte, Nat.reduceEqDiff, Nat.reduceAdd, Nat.reduceMul, Nat.reduceSub, Nat.reduceLT, Int.reduceToNat]))) <;> (try rw [hc])

theorem fit_bytes {zs : List AV} (h : Fit (.sl (.int .u8) 1) zs) : ∃ a : Option (List UInt8), zs = [eU a] := by
  have key : ∀ xs, Fit (.int .u8) xs → ∃ c : UInt8, xs = [AV.int .u8 (c.toNat : Int)] := fun xs hx => by
    cases hx with
    | @int _ n h1 h2 =>
      have h1' : 0 ≤ n := by simpa [IntKind.min, IntKind.signed, IntKind.bits] using h1
      have h2' : n ≤ 255 := by simpa [IntKind.max, IntKind.signed, IntKind.bits] using h2
      refine ⟨UInt8.ofNat n.toNat, ?_⟩
      have : ((UInt8.ofNat n.toNat).toNat : Int) = n := by
        simp
        omega
      rw [this]
  rcases fit_rows (f := fun c : UInt8 => [AV.int .u8 (c.toNat : Int)]) key h with rfl | ⟨l, rfl⟩
  · exact ⟨none, rfl⟩
  · exact ⟨some l, by rw [flatMap_one]; rfl⟩

def sh_FnImagesOfTables : List Sh := [.sl (.int .u8) 1, .sl (.int .u8) 1]
set_option maxHeartbeats 4000000 in
theorem law_FnImagesOfTables (ys : List AV) (hy : ArgsFit sh_FnImagesOfTables ys) : Call Tryz.prog 3 ys [] Nowhere (fun x _ => x = .bool true) := by
  obtain ⟨x1, y1, rfl, h1, hy⟩ := argsFit_cons hy
  obtain ⟨x2, y2, rfl, h2, hy⟩ := argsFit_cons hy
  obtain rfl := argsFit_nil hy
  obtain ⟨code, hce⟩ := fit_bytes h1
  obtain ⟨more, hme⟩ := fit_bytes h2
  subst hce hme
  refine (?_ : ∀ h, Call Tryz.prog 3 [eU code, eU more] h Nowhere (fun x _ => x = .bool true)) []
  intro h
  refine enter (by kernel_rfl) e3 (by kernel_rfl) rfl fun hok => ?_
  simp only [r3, initEnv_2]
  have hl1 := ok_eU (okV_0 hok)
  have hl2 := ok_eU (okV_1 hok)
  generalize hC1 : RCode.seq (.reg (⟨some 66, _, _⟩ :: _)) _ = C1
  generalize hC2 : RCode.seq (.reg (⟨some 88, _, _⟩ :: _)) _ = C2
  (try (simp (disch := first | omega | (simp <;> omega) | fail) only [push_cast, ↓reduceIte, Nat.reduceEqDiff, Nat.reduceAdd, Nat.reduceMul, Nat.reduceSub, Nat.reduceLT, Int.reduceToNat]))
  refine (c_laws_big code more hl1).call ?_
  cases hb : (decide (1048576 < ((lU code).length : Int)) || decide (1048576 - ((lU code).length : Int) < ((lU more).length : Int)))
  · (try (simp (disch := first | omega | (simp <;> omega) | fail) only [push_cast, ↓reduceIte, Nat.reduceEqDiff, Nat.reduceAdd, Nat.reduceMul, Nat.reduceSub, Nat.reduceLT, Int.reduceToNat]))
    refine (c_spec_DrawImageOfSparse code).use fun x hx => ?_
    obtain ⟨s, rfl, hs1, hs2⟩ := hx
    have hiS := c_impl_ImageOfSparse s (by unfold inR; omega)
    have hsS := c_spec_ImageOfSparse s
    have hZ1 : ∃ Z : Str, Z.length ≤ 100000 ∧ imgSV s = .tup [.str Z, .bool (okSp s)] ∧ (okSp s = true → lsV Z = .tup [eSp (spV (spLs s) s.limit.toNat), .bool true] ∧ lpV Z = .tup [eP ⟨0, 0, none⟩, .bool false]) := by
      cases hk : okSp s
      · exact ⟨[], by simp, by unfold imgSV; rw [hk]; rfl, fun h5 => by cases h5⟩
      · obtain ⟨Z, z1, z2, z3, z4⟩ := load_sp hk
        exact ⟨Z, z1, z2, fun _ => ⟨z3, z4⟩⟩
    obtain ⟨Z1, z11, z12, z13⟩ := hZ1
    rw [z12] at hiS hsS
    have hps := fun hk => c_laws_pSameSparse (spV (spLs s) s.limit.toNat) s (sp_same hk).1 (sp_same hk).2.1 (sp_same hk).2.2.1 (sp_same hk).2.2.2.1 (sp_same hk).2.2.2.2
    clear z12
    generalize spV (spLs s) s.limit.toNat = S0 at *
    generalize okSp s = q1 at *
    have esp : eSp s = .agg [.int .i64 s.count, .int .i64 s.limit, .int .i64 s.width, .int .i64 s.low.size, eI s.low.words, .int .i64 s.high.size, eI s.high.words] := rfl
    rw [esp] at hiS hsS
    simp only [esp] at hps
    (try (simp (disch := first | omega | (simp <;> omega) | fail) only [push_cast, ↓reduceIte, Nat.reduceEqDiff, Nat.reduceAdd, Nat.reduceMul, Nat.reduceSub, Nat.reduceLT, Int.reduceToNat]))
    refine (c_spec_DrawImageOfPeeled more).use fun x hx => ?_
    obtain ⟨p, rfl, hp1, hp2⟩ := hx
    have hInP : InP p := ⟨by have := hp2.1; unfold inR; omega, by have := hp2.2.1; unfold inR; omega, fun m hm => by have := hp2.2.2 m hm; unfold inR; omega⟩
    have hiP := c_impl_ImageOfPeeled p hInP (by omega)
    have hsP := c_spec_ImageOfPeeled p hInP
    have hZ2 : ∃ Z : Str, Z.length ≤ 100000 ∧ imgPV p = .tup [.str Z, .bool (okPd p)] ∧ (okPd p = true → lpV Z = .tup [eP ⟨p.seed, p.seg, some (lI p.marks)⟩, .bool true] ∧ lsV Z = .tup [eSp zSp, .bool false]) := by
      cases hk : okPd p
      · exact ⟨[], by simp, by unfold imgPV; rw [hk]; rfl, fun h5 => by cases h5⟩
      · obtain ⟨Z, z1, z2, z3, z4⟩ := load_pd hk
        exact ⟨Z, z1, z2, fun _ => ⟨z3, z4⟩⟩
    obtain ⟨Z2, z21, z22, z23⟩ := hZ2
    rw [z22] at hiP hsP
    clear z22
    generalize okPd p = q2 at *
    have hpp := c_laws_pSamePeeled ⟨p.seed, p.seg, some (lI p.marks)⟩ p rfl rfl rfl
    have epd : ∀ a b c, eP ⟨a, b, c⟩ = .agg [.int .i64 a, .int .i64 b, eI c] := fun _ _ _ => rfl
    obtain ⟨p1, p2, p3⟩ := p
    rw [epd] at hiP hsP
    rw [epd, epd] at hpp
    simp only [epd] at z13 z23
    have hLS := fun Z hZ => (c_impl_LoadSparse_o Z hZ).fn
    have hLP := fun Z hZ => (c_impl_LoadPeeled_o Z hZ).fn
    (try (simp (disch := first | omega | (simp <;> omega) | fail) only [push_cast, ↓reduceIte, Nat.reduceEqDiff, Nat.reduceAdd, Nat.reduceMul, Nat.reduceSub, Nat.reduceLT, Int.reduceToNat]))
    refine hiS.call ?_
    (try (simp (disch := first | omega | (simp <;> omega) | fail) only [push_cast, ↓reduceIte, Nat.reduceEqDiff, Nat.reduceAdd, Nat.reduceMul, Nat.reduceSub, Nat.reduceLT, Int.reduceToNat]))
    refine hsS.call ?_
    (try (simp (disch := first | omega | (simp <;> omega) | fail) only [push_cast, ↓reduceIte, Nat.reduceEqDiff, Nat.reduceAdd, Nat.reduceMul, Nat.reduceSub, Nat.reduceLT, Int.reduceToNat]))
    refine hiP.call ?_
    (try (simp (disch := first | omega | (simp <;> omega) | fail) only [push_cast, ↓reduceIte, Nat.reduceEqDiff, Nat.reduceAdd, Nat.reduceMul, Nat.reduceSub, Nat.reduceLT, Int.reduceToNat]))
    refine hsP.call ?_
    (try (simp (disch := first | omega | (simp <;> omega) | fail) only [push_cast, ↓reduceIte, Nat.reduceEqDiff, Nat.reduceAdd, Nat.reduceMul, Nat.reduceSub, Nat.reduceLT, Int.reduceToNat]))
    obtain ⟨G, hG⟩ : ∃ G : H, G = h ++ [some (.cells [.int .i64 s.count, .int .i64 s.limit, .int .i64 s.width, .int .i64 s.low.size, eI s.low.words, .int .i64 s.high.size, eI s.high.words]), some (.cells [.int .i64 p1, .int .i64 p2, eI p3])] := ⟨_, rfl⟩
    have c5 : G.cells h.length = some [.int .i64 s.count, .int .i64 s.limit, .int .i64 s.width, .int .i64 s.low.size, eI s.low.words, .int .i64 s.high.size, eI s.high.words] := by rw [hG, cells_h0]; rfl
    have c6 : G.cells (h.length + 1) = some [.int .i64 p1, .int .i64 p2, eI p3] := by rw [hG, cells_hk]; rfl
    rw [← hG]
    clear hG hiS hsS hiP hsP
    refine T_cut (fun e g => Pins e [(6, .adr (h.length + 1) 0), (11, .str Z2), (14, .bool q2)] ∧ g.cells (h.length + 1) = some [.int .i64 p1, .int .i64 p2, eI p3]) ?_ ?_
    · rw [← hC1]
      clear hC1 hC2
      cases q1
      · (try (simp (disch := first | omega | (simp <;> omega) | fail) only [push_cast, ↓reduceIte, Nat.reduceEqDiff, Nat.reduceAdd, Nat.reduceMul, Nat.reduceSub, Nat.reduceLT, Int.reduceToNat]))
        all_goals (try exact c6)
        done
      · obtain ⟨z3, z4⟩ := z13 rfl
        have hL1 := hLS Z1 (by omega)
        have hL2 := hLP Z1 (by omega)
        have hps := hps rfl
        rw [z3] at hL1
        rw [z4] at hL2
        obtain ⟨a1, a2, a3, ⟨a4, a5⟩, ⟨a6, a7⟩⟩ := S0
        have c5' : ∀ l, H.cells (G ++ l) h.length = _ := fun l => cells_app c5
        have c6' : ∀ l, H.cells (G ++ l) (h.length + 1) = _ := fun l => cells_app c6
        have hGl := cells_lt c6
        have hpm1 : (h.length ≤ G.length) = True := eq_true (by omega)
        have hpm2 : (h.length ≤ G.length + 1) = True := eq_true (by omega)
        (try (simp (disch := first | omega | (simp <;> omega) | fail) only [push_cast, ↓reduceIte, Nat.reduceEqDiff, Nat.reduceAdd, Nat.reduceMul, Nat.reduceSub, Nat.reduceLT, Int.reduceToNat]))
        refine hL1.call ?_
        (try (simp (disch := first | omega | (simp <;> omega) | fail) only [push_cast, ↓reduceIte, Nat.reduceEqDiff, Nat.reduceAdd, Nat.reduceMul, Nat.reduceSub, Nat.reduceLT, Int.reduceToNat, hpm1, hpm2]))
        refine hL2.call ?_
        (try (simp (disch := first | omega | (simp <;> omega) | fail) only [push_cast, ↓reduceIte, Nat.reduceEqDiff, Nat.reduceAdd, Nat.reduceMul, Nat.reduceSub, Nat.reduceLT, Int.reduceToNat, c5, c5', hpm1, hpm2]))
        refine hps.call ?_
        (try (simp (disch := first | omega | (simp <;> omega) | fail) only [push_cast, ↓reduceIte, Nat.reduceEqDiff, Nat.reduceAdd, Nat.reduceMul, Nat.reduceSub, Nat.reduceLT, Int.reduceToNat]))
        all_goals (try exact c6)
        all_goals (try exact c6' _)
        done
    · clear hC1 c5 c6
      rintro e g ⟨hp, c6⟩
      refine T_pins hp fun e => ?_
      rw [← hC2]
      clear hC2
      cases q2
      · (try (simp (disch := first | omega | (simp <;> omega) | fail) only [push_cast, ↓reduceIte, Nat.reduceEqDiff, Nat.reduceAdd, Nat.reduceMul, Nat.reduceSub, Nat.reduceLT, Int.reduceToNat]))
        done
      · obtain ⟨z3, z4⟩ := z23 rfl
        have hL1 := hLS Z2 (by omega)
        have hL2 := hLP Z2 (by omega)
        rw [z3] at hL2
        rw [z4] at hL1
        have c6' : ∀ l, H.cells (g ++ l) (h.length + 1) = _ := fun l => cells_app c6
        have hGl := cells_lt c6
        have hpm1 : (h.length ≤ g.length) = True := eq_true (by omega)
        have hpm2 : (h.length ≤ g.length + 1) = True := eq_true (by omega)
        (try (simp (disch := first | omega | (simp <;> omega) | fail) only [push_cast, ↓reduceIte, Nat.reduceEqDiff, Nat.reduceAdd, Nat.reduceMul, Nat.reduceSub, Nat.reduceLT, Int.reduceToNat]))
        refine hL2.call ?_
        (try (simp (disch := first | omega | (simp <;> omega) | fail) only [push_cast, ↓reduceIte, Nat.reduceEqDiff, Nat.reduceAdd, Nat.reduceMul, Nat.reduceSub, Nat.reduceLT, Int.reduceToNat, hpm1, hpm2]))
        refine hL1.call ?_
        (try (simp (disch := first | omega | (simp <;> omega) | fail) only [push_cast, ↓reduceIte, Nat.reduceEqDiff, Nat.reduceAdd, Nat.reduceMul, Nat.reduceSub, Nat.reduceLT, Int.reduceToNat, c6, c6', zSp, hpm1, hpm2]))
        refine hpp.call ?_
        (try (simp (disch := first | omega | (simp <;> omega) | fail) only [push_cast, ↓reduceIte, Nat.reduceEqDiff, Nat.reduceAdd, Nat.reduceMul, Nat.reduceSub, Nat.reduceLT, Int.reduceToNat]))
        done
  · (try (simp (disch := first | omega | (simp <;> omega) | fail) only [push_cast, ↓reduceIte, Nat.reduceEqDiff, Nat.reduceAdd, Nat.reduceMul, Nat.reduceSub, Nat.reduceLT, Int.reduceToNat]))

end Go.Proofs.YtbkcenkfecndjaaGreatDoor.M
