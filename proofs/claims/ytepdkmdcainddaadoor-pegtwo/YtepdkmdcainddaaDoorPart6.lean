/- What is proved: the law PegTwo returns true for every input. Conditions: none beyond the card's own.
   Texts: P18Dq, P18Ds, P18Dt, P18Du.
-/
import Derived.Test.YtepdkmdcainddaaDoorPart5
-- lib2
namespace Go.Proofs.YtepdkmdcainddaaDoor
open Go Go.Itp
set_option linter.unusedSimpArgs false
set_option linter.unusedVariables false
set_option maxRecDepth 100000
set_option maxHeartbeats 2000000
attribute [local irreducible] Does

theorem eqPoint (x y : Int) : eqAggX false [(0, 0), (1, 0)] (.agg [.int .i64 x, .int .i64 y].toArray) (.agg [.int .i64 x, .int .i64 y].toArray) = some (.bool true) := by
  simp [eqAggX, eqAggA, eqCellsA, eqCell, lget]
theorem alive_p (w : World) (n : Nat) (s : St) : (EN w (n + 1)).pcall 19 [] s = some (.bool true, []) := rfl
section
variable (w : World) (n : Nat) {vB : Value} {B : List Bool}
theorem one_law (h : Heap) (nx : Nat) (t : GI w h nx vB B) (a b x y : Int) (ha : -9223372036854775808 ≤ a ∧ a ≤ 9223372036854775807) (hb : -9223372036854775808 ≤ b ∧ b ≤ 9223372036854775807) :
    ∃ r s', body (EN w (n + 6)) c4 [.agg [.int .i64 a, .int .i64 b, vB].toArray, .int .i64 x, .int .i64 y] ⟨h, nx, nx⟩ = some (r, s') ∧ r = .bool true := by
  refine body_w (Nat.le_of_ble_eq_true rfl) ?_
  have t1 := t.push [⟨[.int .i64 a, .int .i64 b, vB], 1, false, 24⟩] (nx' := nx + 1) (by omega)
  have hf := fit_p w (n + 3) (p := nx) t1 a b ha hb
  cases hfit : fitS a b B.length
  · rw [hfit] at hf
    repeat' (first | (simp (disch := first | omega | assumption | (exact id (by with_unfolding_all rfl)) | ((refine all_cons _ _ (by first | assumption | exact id (by with_unfolding_all rfl)) ?_); (repeat' (first | exact List.all_nil | refine all_cons _ _ (by first | assumption | exact id (by with_unfolding_all rfl)) ?_)); done) |  exact callP_old _ _ _ _ _ | exact one_int _ _ | exact one_bool _ | exact one_string _ | exact one_slice _ _ _ | exact one_pointer _ | exact hget_push_one _ _ _ _ (by omega) | (simp only [List.length_map, List.length_set, List.length_replicate, List.length_cons, List.length_nil]; omega) | (rw [hget_push_lt _ _ _ _ (by omega)]; first | assumption | exact hget_push_one _ _ _ _ (by omega))) only [WW0, WW1, WW2, WW3, WW4, WW5, WW6, WW7, Option.map_some, args0, slotsL, opdsA, List.cons_append, List.nil_append, List.map_cons, List.map_nil, List.append_nil, Option.toList_some, Option.toList_none, Nat.reduceEqDiff, Nat.reduceLT, Nat.reduceAdd, Nat.reduceBEq, Int.reduceAdd, Int.reduceSub, Int.reduceLT, Int.reduceLE, Int.reduceEq, Int.reduceNeg, ↓reduceIte, if_true, if_false, Bool.false_eq_true, Bool.not_true, Bool.not_false, List.length_cons, List.length_nil, List.length_singleton, reduceCtorEq, Int.toNat_natCast, Nat.zero_add, Nat.add_zero, Int.add_sub_cancel, eq_self, List.drop_zero, List.drop_succ_cons, Option.some.injEq, Prod.mk.injEq, mkFnA, Bool.and_true, Bool.true_and, Bool.and_self, c4, alive_p, hf]) | (refine does_goI_dec (fun _ => ?_) (fun _ => ?_)) | (refine does_goG_dec (fun _ => ?_) (fun _ => ?_)) | (refine does_goI (fun _ => ?_) (fun _ => ?_)) | (refine does_goG (fun _ => ?_) (fun _ => ?_)))
  rw [hfit] at hf
  by_cases h1 : x < 0
  · repeat' (first | (simp (disch := first | omega | assumption | (exact id (by with_unfolding_all rfl)) | ((refine all_cons _ _ (by first | assumption | exact id (by with_unfolding_all rfl)) ?_); (repeat' (first | exact List.all_nil | refine all_cons _ _ (by first | assumption | exact id (by with_unfolding_all rfl)) ?_)); done) |  exact callP_old _ _ _ _ _ | exact one_int _ _ | exact one_bool _ | exact one_string _ | exact one_slice _ _ _ | exact one_pointer _ | exact hget_push_one _ _ _ _ (by omega) | (simp only [List.length_map, List.length_set, List.length_replicate, List.length_cons, List.length_nil]; omega) | (rw [hget_push_lt _ _ _ _ (by omega)]; first | assumption | exact hget_push_one _ _ _ _ (by omega))) only [WW0, WW1, WW2, WW3, WW4, WW5, WW6, WW7, Option.map_some, args0, slotsL, opdsA, List.cons_append, List.nil_append, List.map_cons, List.map_nil, List.append_nil, Option.toList_some, Option.toList_none, Nat.reduceEqDiff, Nat.reduceLT, Nat.reduceAdd, Nat.reduceBEq, Int.reduceAdd, Int.reduceSub, Int.reduceLT, Int.reduceLE, Int.reduceEq, Int.reduceNeg, ↓reduceIte, if_true, if_false, Bool.false_eq_true, Bool.not_true, Bool.not_false, List.length_cons, List.length_nil, List.length_singleton, reduceCtorEq, Int.toNat_natCast, Nat.zero_add, Nat.add_zero, Int.add_sub_cancel, eq_self, List.drop_zero, List.drop_succ_cons, Option.some.injEq, Prod.mk.injEq, mkFnA, Bool.and_true, Bool.true_and, Bool.and_self, c4, alive_p, hf]) | (refine does_goI_dec (fun _ => ?_) (fun _ => ?_)) | (refine does_goG_dec (fun _ => ?_) (fun _ => ?_)) | (refine does_goI (fun _ => ?_) (fun _ => ?_)) | (refine does_goG (fun _ => ?_) (fun _ => ?_)))
  by_cases h2 : a < x
  · repeat' (first | (simp (disch := first | omega | assumption | (exact id (by with_unfolding_all rfl)) | ((refine all_cons _ _ (by first | assumption | exact id (by with_unfolding_all rfl)) ?_); (repeat' (first | exact List.all_nil | refine all_cons _ _ (by first | assumption | exact id (by with_unfolding_all rfl)) ?_)); done) |  exact callP_old _ _ _ _ _ | exact one_int _ _ | exact one_bool _ | exact one_string _ | exact one_slice _ _ _ | exact one_pointer _ | exact hget_push_one _ _ _ _ (by omega) | (simp only [List.length_map, List.length_set, List.length_replicate, List.length_cons, List.length_nil]; omega) | (rw [hget_push_lt _ _ _ _ (by omega)]; first | assumption | exact hget_push_one _ _ _ _ (by omega))) only [WW0, WW1, WW2, WW3, WW4, WW5, WW6, WW7, Option.map_some, args0, slotsL, opdsA, List.cons_append, List.nil_append, List.map_cons, List.map_nil, List.append_nil, Option.toList_some, Option.toList_none, Nat.reduceEqDiff, Nat.reduceLT, Nat.reduceAdd, Nat.reduceBEq, Int.reduceAdd, Int.reduceSub, Int.reduceLT, Int.reduceLE, Int.reduceEq, Int.reduceNeg, ↓reduceIte, if_true, if_false, Bool.false_eq_true, Bool.not_true, Bool.not_false, List.length_cons, List.length_nil, List.length_singleton, reduceCtorEq, Int.toNat_natCast, Nat.zero_add, Nat.add_zero, Int.add_sub_cancel, eq_self, List.drop_zero, List.drop_succ_cons, Option.some.injEq, Prod.mk.injEq, mkFnA, Bool.and_true, Bool.true_and, Bool.and_self, c4, alive_p, hf]) | (refine does_goI_dec (fun _ => ?_) (fun _ => ?_)) | (refine does_goG_dec (fun _ => ?_) (fun _ => ?_)) | (refine does_goI (fun _ => ?_) (fun _ => ?_)) | (refine does_goG (fun _ => ?_) (fun _ => ?_)))
  by_cases h3 : y < 0
  · repeat' (first | (simp (disch := first | omega | assumption | (exact id (by with_unfolding_all rfl)) | ((refine all_cons _ _ (by first | assumption | exact id (by with_unfolding_all rfl)) ?_); (repeat' (first | exact List.all_nil | refine all_cons _ _ (by first | assumption | exact id (by with_unfolding_all rfl)) ?_)); done) |  exact callP_old _ _ _ _ _ | exact one_int _ _ | exact one_bool _ | exact one_string _ | exact one_slice _ _ _ | exact one_pointer _ | exact hget_push_one _ _ _ _ (by omega) | (simp only [List.length_map, List.length_set, List.length_replicate, List.length_cons, List.length_nil]; omega) | (rw [hget_push_lt _ _ _ _ (by omega)]; first | assumption | exact hget_push_one _ _ _ _ (by omega))) only [WW0, WW1, WW2, WW3, WW4, WW5, WW6, WW7, Option.map_some, args0, slotsL, opdsA, List.cons_append, List.nil_append, List.map_cons, List.map_nil, List.append_nil, Option.toList_some, Option.toList_none, Nat.reduceEqDiff, Nat.reduceLT, Nat.reduceAdd, Nat.reduceBEq, Int.reduceAdd, Int.reduceSub, Int.reduceLT, Int.reduceLE, Int.reduceEq, Int.reduceNeg, ↓reduceIte, if_true, if_false, Bool.false_eq_true, Bool.not_true, Bool.not_false, List.length_cons, List.length_nil, List.length_singleton, reduceCtorEq, Int.toNat_natCast, Nat.zero_add, Nat.add_zero, Int.add_sub_cancel, eq_self, List.drop_zero, List.drop_succ_cons, Option.some.injEq, Prod.mk.injEq, mkFnA, Bool.and_true, Bool.true_and, Bool.and_self, c4, alive_p, hf]) | (refine does_goI_dec (fun _ => ?_) (fun _ => ?_)) | (refine does_goG_dec (fun _ => ?_) (fun _ => ?_)) | (refine does_goI (fun _ => ?_) (fun _ => ?_)) | (refine does_goG (fun _ => ?_) (fun _ => ?_)))
  by_cases h4 : b < y
  · repeat' (first | (simp (disch := first | omega | assumption | (exact id (by with_unfolding_all rfl)) | ((refine all_cons _ _ (by first | assumption | exact id (by with_unfolding_all rfl)) ?_); (repeat' (first | exact List.all_nil | refine all_cons _ _ (by first | assumption | exact id (by with_unfolding_all rfl)) ?_)); done) |  exact callP_old _ _ _ _ _ | exact one_int _ _ | exact one_bool _ | exact one_string _ | exact one_slice _ _ _ | exact one_pointer _ | exact hget_push_one _ _ _ _ (by omega) | (simp only [List.length_map, List.length_set, List.length_replicate, List.length_cons, List.length_nil]; omega) | (rw [hget_push_lt _ _ _ _ (by omega)]; first | assumption | exact hget_push_one _ _ _ _ (by omega))) only [WW0, WW1, WW2, WW3, WW4, WW5, WW6, WW7, Option.map_some, args0, slotsL, opdsA, List.cons_append, List.nil_append, List.map_cons, List.map_nil, List.append_nil, Option.toList_some, Option.toList_none, Nat.reduceEqDiff, Nat.reduceLT, Nat.reduceAdd, Nat.reduceBEq, Int.reduceAdd, Int.reduceSub, Int.reduceLT, Int.reduceLE, Int.reduceEq, Int.reduceNeg, ↓reduceIte, if_true, if_false, Bool.false_eq_true, Bool.not_true, Bool.not_false, List.length_cons, List.length_nil, List.length_singleton, reduceCtorEq, Int.toNat_natCast, Nat.zero_add, Nat.add_zero, Int.add_sub_cancel, eq_self, List.drop_zero, List.drop_succ_cons, Option.some.injEq, Prod.mk.injEq, mkFnA, Bool.and_true, Bool.true_and, Bool.and_self, c4, alive_p, hf]) | (refine does_goI_dec (fun _ => ?_) (fun _ => ?_)) | (refine does_goG_dec (fun _ => ?_) (fun _ => ?_)) | (refine does_goI (fun _ => ?_) (fun _ => ?_)) | (refine does_goG (fun _ => ?_) (fun _ => ?_)))
  obtain ⟨e1, e2, e3, e4, e5, e6⟩ := fit_out hfit
  obtain ⟨Q, rfl⟩ : ∃ Q : Nat, a = (Q : Int) := ⟨a.toNat, by omega⟩
  obtain ⟨K, rfl⟩ : ∃ K : Nat, b = (K : Int) := ⟨b.toNat, by omega⟩
  obtain ⟨X, rfl⟩ : ∃ X : Nat, x = (X : Int) := ⟨x.toNat, by omega⟩
  obtain ⟨Y, rfl⟩ : ∃ Y : Nat, y = (Y : Int) := ⟨y.toNat, by omega⟩
  obtain ⟨H1, hH1⟩ : ∃ H1, H1 = hpush h nx [⟨[.int .i64 Q, .int .i64 K, vB], 1, false, 24⟩] := ⟨_, rfl⟩
  rw [← hH1] at t1 hf
  have hBL : B.length = Q * K := by have : ((Q * K : Nat) : Int) = (Q : Int) * (K : Int) := by simp
                                    omega
  obtain ⟨u, ss, h2, n2, cl2, x12, m2, hN⟩ := encode_w w (n + 2) t1 Q K e1 (by omega) (by omega) hBL (p := nx) (by omega)
  have hQ : 1 ≤ Q ∧ Q ≤ 40 := by omega
  have hK : 1 ≤ K ∧ K ≤ 64 := by omega
  have hY : Y < K + 1 := by omega
  have hX : X < Q + 1 := by omega
  have hEl := encV_len B Q K
  have hEr := encV_row B Q K Y hY
  have hval := enc_valid B Q K hQ hK
  obtain ⟨m1E, m1S⟩ := enc_mend B Q K hQ hK
  obtain ⟨m2E, m2S, m2D⟩ := one_mend B Q K Y X hQ hK hY hX
  obtain ⟨L, hL⟩ : ∃ L, L = encV B Q K := ⟨_, rfl⟩
  rw [← hL] at hN hEl hEr hval m1E m1S m2E m2S m2D
  have hqq : -9223372036854775808 ≤ (Q : Int) ∧ (Q : Int) ≤ 9223372036854775807 := by omega
  have b1 : hget H1 nx = some ⟨[.int .i64 Q, .int .i64 K, vB], 1, false, 24⟩ := by subst hH1; exact hget_push_one _ _ _ _ rfl
  have u2 := hN.cb
  have o1 := u2.v.one
  have i2 := fun xs s => imp (n + 5) 13 xs s w rfl
  obtain ⟨H3, hH3⟩ : ∃ H3, H3 = hset (hpush h2 n2 [⟨[.int .i64 0, .slice none 0 0], 1, false, 34⟩]) n2 ⟨[.int .i64 Q, u], 1, false, 34⟩ := ⟨_, rfl⟩
  have x23 : HX n2 h2 H3 := by subst hH3; exact ((HX.refl _ _).push _ (Nat.le_refl _)).set _ (Nat.le_refl _)
  have u3 := u2.hx x23 (nx' := n2 + 1) (by omega)
  have d3 : hget H3 n2 = some ⟨[.int .i64 Q, u], 1, false, 34⟩ := by subst hH3; rw [hget_set_self, hget_push_one _ _ _ _ rfl]; rfl
  have b3 : hget H3 nx = some ⟨[.int .i64 Q, .int .i64 K, vB], 1, false, 24⟩ := by rw [x23 _ (by omega), x12 _ (by omega)]; exact b1
  have s0 := chain_p w (n + 5) (p := nx) u3 Q hqq
  rw [hval, if_pos rfl] at s0
  have l3 := u3.v.len
  rw [show ss.length = K + 1 by rw [u2.len, hEl]] at l3
  obtain ⟨u4, ss4, h4, n4, cl4, x34, m4, hN4⟩ := twin_w w (n + 5) u3 Q (p := nx) (by omega)
  have o4 := hN4.cb.v.one
  have i4 := fun xs s => imp (n + 5) 22 xs s w rfl
  have d4 : hget h4 n2 = some ⟨[.int .i64 Q, u], 1, false, 34⟩ := by rw [x34 _ (by omega)]; exact d3
  obtain ⟨H5, hH5⟩ : ∃ H5, H5 = hset (hpush h4 n4 [⟨[.int .i64 0, .slice none 0 0], 1, false, 34⟩]) n4 ⟨[.int .i64 Q, u4], 1, false, 34⟩ := ⟨_, rfl⟩
  have x45 : HX n4 h4 H5 := by subst hH5; exact ((HX.refl _ _).push _ (Nat.le_refl _)).set _ (Nat.le_refl _)
  have N5 := hN4.hx x45 (nx' := n4 + 1) (by omega)
  have d5 : hget H5 n4 = some ⟨[.int .i64 Q, u4], 1, false, 34⟩ := by subst hH5; rw [hget_set_self, hget_push_one _ _ _ _ rfl]; rfl
  obtain ⟨i, c, g, hi, hni, hgi, hui⟩ := N5.row Y (by omega)
  have hib : i + 1 ≤ n4 := by
    have := hN4.cb.br Y (by omega)
    rw [hi] at this
    simpa [bidN, bidA] using this
  have hYl := (N5.cb.r Y (by omega))
  rw [hi] at hYl
  have hXl : X < L[Y]!.length := by omega
  have k2 := hYl.load X hXl
  have k3 := hYl.idx .i64 X (by omega) (by omega)
  obtain ⟨H6, hH6⟩ : ∃ H6, H6 = hset H5 i ⟨(L[Y]!.set X (!L[Y]![X]!)).map Value.bool, 1, g, 4⟩ := ⟨_, rfl⟩
  have u6 : CB w H6 (n4 + 1) u4 ss4 (flip L Y X) := by subst hH6; exact N5.flip (x := X) (g := g) (b := !L[Y]![X]!) (by omega) hi hui
  have x36 : HX (n2 + 1) H3 H6 := by subst hH6; exact (x34.trans x45 m4).set _ (by omega)
  have d6 : hget H6 n4 = some ⟨[.int .i64 Q, u4], 1, false, 34⟩ := by subst hH6; rw [hget_set_ne _ _ _ _ (by omega)]; exact d5
  have e6' : hget H6 n2 = some ⟨[.int .i64 Q, u], 1, false, 34⟩ := by rw [x36 _ (by omega)]; exact d3
  have v6 := u3.hx x36 (nx' := n4 + 1) (by omega)
  obtain ⟨vm, h7, n7, cl7, x67, m7, hM⟩ := mend_w w n u6 Q hqq (p := nx) (by omega)
  obtain ⟨q', u', ss', V', x', y', cc, rfl, hC, hS⟩ := hM.is
  rw [m2S] at hS
  simp only [Prod.mk.injEq] at hS
  obtain ⟨rfl, rfl, rfl, rfl, rfl⟩ := hS
  rw [m2E] at cl7
  have o7 := hC.v.one
  have i7 := fun xs s => imp (n + 5) 23 xs s w rfl
  obtain ⟨H8, hH8⟩ : ∃ H8, H8 = hset (hset (hpush (hpush h7 n7 [⟨[.int .i64 0, .slice none 0 0], 1, false, 34⟩]) (n7 + 1) [⟨(List.replicate 2 (0 : Int)).map vI, 1, false, 47⟩]) n7 ⟨[.int .i64 Q, u'], 1, false, 34⟩) (n7 + 1) ⟨[.int .i64 X, .int .i64 Y], 1, false, 47⟩ := ⟨_, rfl⟩
  have x78 : HX n7 h7 H8 := by subst hH8; exact ((((HX.refl _ _).push _ (Nat.le_refl _)).push _ (by omega)).set _ (Nat.le_refl _)).set _ (by omega)
  have l8 : hget H8 n7 = some ⟨[.int .i64 Q, u'], 1, false, 34⟩ := by subst hH8; rw [hget_set_ne _ _ _ _ (by omega), hget_set_self, hget_push_lt _ _ _ _ (by omega), hget_push_one _ _ _ _ rfl]; rfl
  have p8 : hget H8 (n7 + 1) = some ⟨[.int .i64 X, .int .i64 Y], 1, false, 47⟩ := by subst hH8; rw [hget_set_self, hget_set_ne _ _ _ _ (by omega), hget_push_one _ _ _ _ rfl]; rfl
  have x68 := x67.trans x78 m7
  have d8 : hget H8 n4 = some ⟨[.int .i64 Q, u4], 1, false, 34⟩ := by rw [x68 _ (by omega)]; exact d6
  have e8' : hget H8 n2 = some ⟨[.int .i64 Q, u], 1, false, 34⟩ := by rw [x68 _ (by omega)]; exact e6'
  have u8 := u6.hx x68 (nx' := n7 + 1 + 1) (by omega)
  have v8 := v6.hx x68 (nx' := n7 + 1 + 1) (by omega)
  have w8 := hC.hx x78 (nx' := n7 + 1 + 1) (by omega)
  obtain ⟨gg, h9, n9, cl9, x89, m9, hg⟩ := decode_w w n u8 Q hqq (p := nx) (by omega)
  obtain ⟨ga, gb, gv, rfl, hgb, hgr⟩ := hg.is
  rw [m2D] at cl9 hgr
  rw [if_neg (by omega)] at hgr
  obtain ⟨rfl, rfl, hgr⟩ := hgr
  have o9 := hgr.one
  have i9 := fun xs s => imp (n + 5) 24 xs s w rfl
  have e9' : hget h9 n2 = some ⟨[.int .i64 Q, u], 1, false, 34⟩ := by rw [x89 _ (by omega)]; exact e8'
  obtain ⟨H10, hH10⟩ : ∃ H10, H10 = hset (hpush h9 n9 [⟨[.int .i64 0, .int .i64 0, .slice none 0 0], 1, false, 24⟩]) n9 ⟨[.int .i64 0, .int .i64 0, gv], 1, false, 24⟩ := ⟨_, rfl⟩
  have x910 : HX n9 h9 H10 := by subst hH10; exact ((HX.refl _ _).push _ (Nat.le_refl _)).set _ (Nat.le_refl _)
  have x810 := x89.trans x910 m9
  have e10' : hget H10 n2 = some ⟨[.int .i64 Q, u], 1, false, 34⟩ := by rw [x810 _ (by omega)]; exact e8'
  have v10 := v8.hx x810 (nx' := n9 + 1) (by omega)
  have w10 := w8.hx x810 (nx' := n9 + 1) (by omega)
  obtain ⟨vm', h11, n11, cl11, x1011, m11, hM'⟩ := mend_w w n v10 Q hqq (p := nx) (by omega)
  obtain ⟨q2, u2', ss2, V2, x2, y2, cc2, rfl, hC2, hS2⟩ := hM'.is
  rw [m1S] at hS2
  simp only [Prod.mk.injEq] at hS2
  obtain ⟨rfl, rfl, rfl, rfl, rfl⟩ := hS2
  rw [m1E] at cl11
  have o11 := hC2.v.one
  obtain ⟨H12, hH12⟩ : ∃ H12, H12 = hset (hset (hpush (hpush h11 n11 [⟨[.int .i64 0, .slice none 0 0], 1, false, 34⟩]) (n11 + 1) [⟨(List.replicate 2 (0 : Int)).map vI, 1, false, 47⟩]) n11 ⟨[.int .i64 Q, u2'], 1, false, 34⟩) (n11 + 1) ⟨[.int .i64 0, .int .i64 0], 1, false, 47⟩ := ⟨_, rfl⟩
  have x1112 : HX n11 h11 H12 := by subst hH12; exact ((((HX.refl _ _).push _ (Nat.le_refl _)).push _ (by omega)).set _ (Nat.le_refl _)).set _ (by omega)
  have l12 : hget H12 n11 = some ⟨[.int .i64 Q, u2'], 1, false, 34⟩ := by subst hH12; rw [hget_set_ne _ _ _ _ (by omega), hget_set_self, hget_push_lt _ _ _ _ (by omega), hget_push_one _ _ _ _ rfl]; rfl
  have p12 : hget H12 (n11 + 1) = some ⟨[.int .i64 0, .int .i64 0], 1, false, 47⟩ := by subst hH12; rw [hget_set_self, hget_set_ne _ _ _ _ (by omega), hget_push_one _ _ _ _ rfl]; rfl
  have x1012 := x1011.trans x1112 m11
  have x812 := x810.trans x1012 (by omega)
  have e12' : hget H12 n2 = some ⟨[.int .i64 Q, u], 1, false, 34⟩ := by rw [x812 _ (by omega)]; exact e8'
  have l12' : hget H12 n7 = some ⟨[.int .i64 Q, u'], 1, false, 34⟩ := by rw [x812 _ (by omega)]; exact l8
  have p12' : hget H12 (n7 + 1) = some ⟨[.int .i64 X, .int .i64 Y], 1, false, 47⟩ := by rw [x812 _ (by omega)]; exact p8
  have v12 := v10.hx x1012 (nx' := n11 + 1 + 1) (by omega)
  have w12 := w10.hx x1012 (nx' := n11 + 1 + 1) (by omega)
  have z12 := hC2.hx x1112 (nx' := n11 + 1 + 1) (by omega)
  have s1 := same18_p w (n + 5) (p := nx) Q w12 v12
  have s2 := same18_p w (n + 5) (p := nx) Q z12 v12
  repeat' (first | (simp (disch := first | omega | assumption | (exact id (by with_unfolding_all rfl)) | ((refine all_cons _ _ (by first | assumption | exact id (by with_unfolding_all rfl)) ?_); (repeat' (first | exact List.all_nil | refine all_cons _ _ (by first | assumption | exact id (by with_unfolding_all rfl)) ?_)); done) |  exact callP_old _ _ _ _ _ | exact one_int _ _ | exact one_bool _ | exact one_string _ | exact one_slice _ _ _ | exact one_pointer _ | exact hget_push_one _ _ _ _ (by omega) | (simp only [List.length_map, List.length_set, List.length_replicate, List.length_cons, List.length_nil]; omega) | (rw [hget_push_lt _ _ _ _ (by omega)]; first | assumption | exact hget_push_one _ _ _ _ (by omega))) only [WW0, WW1, WW2, WW3, WW4, WW5, WW6, WW7, Option.map_some, args0, slotsL, opdsA, List.cons_append, List.nil_append, List.map_cons, List.map_nil, List.append_nil, Option.toList_some, Option.toList_none, Nat.reduceEqDiff, Nat.reduceLT, Nat.reduceAdd, Nat.reduceBEq, Int.reduceAdd, Int.reduceSub, Int.reduceLT, Int.reduceLE, Int.reduceEq, Int.reduceNeg, ↓reduceIte, if_true, if_false, Bool.false_eq_true, Bool.not_true, Bool.not_false, List.length_cons, List.length_nil, List.length_singleton, reduceCtorEq, Int.toNat_natCast, Nat.zero_add, Nat.add_zero, Int.add_sub_cancel, eq_self, List.drop_zero, List.drop_succ_cons, Option.some.injEq, Prod.mk.injEq, mkFnA, Bool.and_true, Bool.true_and, Bool.and_self, c4, alive_p, hf, zchain, ← hH1, b1, i2, cl2]) | (refine does_goI_dec (fun _ => ?_) (fun _ => ?_)) | (refine does_goG_dec (fun _ => ?_) (fun _ => ?_)) | (refine does_goI (fun _ => ?_) (fun _ => ?_)) | (refine does_goG (fun _ => ?_) (fun _ => ?_)))
  all_goals rw [← hH3]
  all_goals repeat' (first | (simp (disch := first | omega | assumption | (exact id (by with_unfolding_all rfl)) | ((refine all_cons _ _ (by first | assumption | exact id (by with_unfolding_all rfl)) ?_); (repeat' (first | exact List.all_nil | refine all_cons _ _ (by first | assumption | exact id (by with_unfolding_all rfl)) ?_)); done) |  exact callP_old _ _ _ _ _ | exact one_int _ _ | exact one_bool _ | exact one_string _ | exact one_slice _ _ _ | exact one_pointer _ | exact hget_push_one _ _ _ _ (by omega) | (simp only [List.length_map, List.length_set, List.length_replicate, List.length_cons, List.length_nil]; omega) | (rw [hget_push_lt _ _ _ _ (by omega)]; first | assumption | exact hget_push_one _ _ _ _ (by omega))) only [WW0, WW1, WW2, WW3, WW4, WW5, WW6, WW7, Option.map_some, args0, slotsL, opdsA, List.cons_append, List.nil_append, List.map_cons, List.map_nil, List.append_nil, Option.toList_some, Option.toList_none, Nat.reduceEqDiff, Nat.reduceLT, Nat.reduceAdd, Nat.reduceBEq, Int.reduceAdd, Int.reduceSub, Int.reduceLT, Int.reduceLE, Int.reduceEq, Int.reduceNeg, ↓reduceIte, if_true, if_false, Bool.false_eq_true, Bool.not_true, Bool.not_false, List.length_cons, List.length_nil, List.length_singleton, reduceCtorEq, Int.toNat_natCast, Nat.zero_add, Nat.add_zero, Int.add_sub_cancel, eq_self, List.drop_zero, List.drop_succ_cons, Option.some.injEq, Prod.mk.injEq, mkFnA, Bool.and_true, Bool.true_and, Bool.and_self, zchain, b3, d3, s0, l3, i4, cl4]) | (refine does_goI_dec (fun _ => ?_) (fun _ => ?_)) | (refine does_goG_dec (fun _ => ?_) (fun _ => ?_)) | (refine does_goI (fun _ => ?_) (fun _ => ?_)) | (refine does_goG (fun _ => ?_) (fun _ => ?_)))
  all_goals rw [← hH5]
  have hl5 := N5.cb.len
  have d7 : hget h7 n4 = some ⟨[.int .i64 Q, u4], 1, false, 34⟩ := by rw [x67 _ (by omega)]; exact d6
  have e11' : hget h11 n2 = some ⟨[.int .i64 Q, u], 1, false, 34⟩ := by rw [x1011 _ (by omega)]; exact e10'
  have l11' : hget h11 n7 = some ⟨[.int .i64 Q, u'], 1, false, 34⟩ := by rw [x1011 _ (by omega), x810 _ (by omega)]; exact l8
  have p11' : hget h11 (n7 + 1) = some ⟨[.int .i64 X, .int .i64 Y], 1, false, 47⟩ := by rw [x1011 _ (by omega), x810 _ (by omega)]; exact p8
  all_goals repeat' (first | (simp (disch := first | omega | assumption | (exact id (by with_unfolding_all rfl)) | ((refine all_cons _ _ (by first | assumption | exact id (by with_unfolding_all rfl)) ?_); (repeat' (first | exact List.all_nil | refine all_cons _ _ (by first | assumption | exact id (by with_unfolding_all rfl)) ?_)); done) |  exact callP_old _ _ _ _ _ | exact one_int _ _ | exact one_bool _ | exact one_string _ | exact one_slice _ _ _ | exact one_pointer _ | exact hget_push_one _ _ _ _ (by omega) | (simp only [List.length_map, List.length_set, List.length_replicate, List.length_cons, List.length_nil]; omega) | (rw [hget_push_lt _ _ _ _ (by omega)]; first | assumption | exact hget_push_one _ _ _ _ (by omega))) only [WW0, WW1, WW2, WW3, WW4, WW5, WW6, WW7, Option.map_some, args0, slotsL, opdsA, List.cons_append, List.nil_append, List.map_cons, List.map_nil, List.append_nil, Option.toList_some, Option.toList_none, Nat.reduceEqDiff, Nat.reduceLT, Nat.reduceAdd, Nat.reduceBEq, Int.reduceAdd, Int.reduceSub, Int.reduceLT, Int.reduceLE, Int.reduceEq, Int.reduceNeg, ↓reduceIte, if_true, if_false, Bool.false_eq_true, Bool.not_true, Bool.not_false, List.length_cons, List.length_nil, List.length_singleton, reduceCtorEq, Int.toNat_natCast, Nat.zero_add, Nat.add_zero, Int.add_sub_cancel, eq_self, List.drop_zero, List.drop_succ_cons, Option.some.injEq, Prod.mk.injEq, mkFnA, Bool.and_true, Bool.true_and, Bool.and_self, d5, hgi, hl5, N5.cb.v.idx, N5.cb.v.load, hi, ← hH6, d6, i7, cl7, zchain, d7]) | (refine does_goI_dec (fun _ => ?_) (fun _ => ?_)) | (refine does_goG_dec (fun _ => ?_) (fun _ => ?_)) | (refine does_goI (fun _ => ?_) (fun _ => ?_)) | (refine does_goG (fun _ => ?_) (fun _ => ?_)))
  all_goals rw [← hH8]
  all_goals repeat' (first | (simp (disch := first | omega | assumption | (exact id (by with_unfolding_all rfl)) | ((refine all_cons _ _ (by first | assumption | exact id (by with_unfolding_all rfl)) ?_); (repeat' (first | exact List.all_nil | refine all_cons _ _ (by first | assumption | exact id (by with_unfolding_all rfl)) ?_)); done) |  exact callP_old _ _ _ _ _ | exact one_int _ _ | exact one_bool _ | exact one_string _ | exact one_slice _ _ _ | exact one_pointer _ | exact hget_push_one _ _ _ _ (by omega) | (simp only [List.length_map, List.length_set, List.length_replicate, List.length_cons, List.length_nil]; omega) | (rw [hget_push_lt _ _ _ _ (by omega)]; first | assumption | exact hget_push_one _ _ _ _ (by omega))) only [WW0, WW1, WW2, WW3, WW4, WW5, WW6, WW7, Option.map_some, args0, slotsL, opdsA, List.cons_append, List.nil_append, List.map_cons, List.map_nil, List.append_nil, Option.toList_some, Option.toList_none, Nat.reduceEqDiff, Nat.reduceLT, Nat.reduceAdd, Nat.reduceBEq, Int.reduceAdd, Int.reduceSub, Int.reduceLT, Int.reduceLE, Int.reduceEq, Int.reduceNeg, ↓reduceIte, if_true, if_false, Bool.false_eq_true, Bool.not_true, Bool.not_false, List.length_cons, List.length_nil, List.length_singleton, reduceCtorEq, Int.toNat_natCast, Nat.zero_add, Nat.add_zero, Int.add_sub_cancel, eq_self, List.drop_zero, List.drop_succ_cons, Option.some.injEq, Prod.mk.injEq, mkFnA, Bool.and_true, Bool.true_and, Bool.and_self, zchain, zgrid, d8, l8, p8, i9, cl9, e9']) | (refine does_goI_dec (fun _ => ?_) (fun _ => ?_)) | (refine does_goG_dec (fun _ => ?_) (fun _ => ?_)) | (refine does_goI (fun _ => ?_) (fun _ => ?_)) | (refine does_goG (fun _ => ?_) (fun _ => ?_)))
  all_goals rw [← hH10]
  all_goals repeat' (first | (simp (disch := first | omega | assumption | (exact id (by with_unfolding_all rfl)) | ((refine all_cons _ _ (by first | assumption | exact id (by with_unfolding_all rfl)) ?_); (repeat' (first | exact List.all_nil | refine all_cons _ _ (by first | assumption | exact id (by with_unfolding_all rfl)) ?_)); done) |  exact callP_old _ _ _ _ _ | exact one_int _ _ | exact one_bool _ | exact one_string _ | exact one_slice _ _ _ | exact one_pointer _ | exact hget_push_one _ _ _ _ (by omega) | (simp only [List.length_map, List.length_set, List.length_replicate, List.length_cons, List.length_nil]; omega) | (rw [hget_push_lt _ _ _ _ (by omega)]; first | assumption | exact hget_push_one _ _ _ _ (by omega))) only [WW0, WW1, WW2, WW3, WW4, WW5, WW6, WW7, Option.map_some, args0, slotsL, opdsA, List.cons_append, List.nil_append, List.map_cons, List.map_nil, List.append_nil, Option.toList_some, Option.toList_none, Nat.reduceEqDiff, Nat.reduceLT, Nat.reduceAdd, Nat.reduceBEq, Int.reduceAdd, Int.reduceSub, Int.reduceLT, Int.reduceLE, Int.reduceEq, Int.reduceNeg, ↓reduceIte, if_true, if_false, Bool.false_eq_true, Bool.not_true, Bool.not_false, List.length_cons, List.length_nil, List.length_singleton, reduceCtorEq, Int.toNat_natCast, Nat.zero_add, Nat.add_zero, Int.add_sub_cancel, eq_self, List.drop_zero, List.drop_succ_cons, Option.some.injEq, Prod.mk.injEq, mkFnA, Bool.and_true, Bool.true_and, Bool.and_self, zchain, e10', i7, cl11, e11', l11', p11']) | (refine does_goI_dec (fun _ => ?_) (fun _ => ?_)) | (refine does_goG_dec (fun _ => ?_) (fun _ => ?_)) | (refine does_goI (fun _ => ?_) (fun _ => ?_)) | (refine does_goG (fun _ => ?_) (fun _ => ?_)))
  all_goals rw [← hH12]
  all_goals repeat' (first | (simp (disch := first | omega | assumption | (exact id (by with_unfolding_all rfl)) | ((refine all_cons _ _ (by first | assumption | exact id (by with_unfolding_all rfl)) ?_); (repeat' (first | exact List.all_nil | refine all_cons _ _ (by first | assumption | exact id (by with_unfolding_all rfl)) ?_)); done) |  exact callP_old _ _ _ _ _ | exact one_int _ _ | exact one_bool _ | exact one_string _ | exact one_slice _ _ _ | exact one_pointer _ | exact hget_push_one _ _ _ _ (by omega) | (simp only [List.length_map, List.length_set, List.length_replicate, List.length_cons, List.length_nil]; omega) | (rw [hget_push_lt _ _ _ _ (by omega)]; first | assumption | exact hget_push_one _ _ _ _ (by omega))) only [WW0, WW1, WW2, WW3, WW4, WW5, WW6, WW7, Option.map_some, args0, slotsL, opdsA, List.cons_append, List.nil_append, List.map_cons, List.map_nil, List.append_nil, Option.toList_some, Option.toList_none, Nat.reduceEqDiff, Nat.reduceLT, Nat.reduceAdd, Nat.reduceBEq, Int.reduceAdd, Int.reduceSub, Int.reduceLT, Int.reduceLE, Int.reduceEq, Int.reduceNeg, ↓reduceIte, if_true, if_false, Bool.false_eq_true, Bool.not_true, Bool.not_false, List.length_cons, List.length_nil, List.length_singleton, reduceCtorEq, Int.toNat_natCast, Nat.zero_add, Nat.add_zero, Int.add_sub_cancel, eq_self, List.drop_zero, List.drop_succ_cons, Option.some.injEq, Prod.mk.injEq, mkFnA, Bool.and_true, Bool.true_and, Bool.and_self, e12', l12', p12', l12, p12, s1, s2, eqPoint]) | (refine does_goI_dec (fun _ => ?_) (fun _ => ?_)) | (refine does_goG_dec (fun _ => ?_) (fun _ => ?_)) | (refine does_goI (fun _ => ?_) (fun _ => ?_)) | (refine does_goG (fun _ => ?_) (fun _ => ?_)))
end
end Go.Proofs.YtepdkmdcainddaaDoor
namespace Go.Proofs.YtepdkmdcainddaaDoor
open Go Go.Itp
set_option linter.unusedSimpArgs false
set_option linter.unusedVariables false
set_option maxRecDepth 100000
/-! ### two pegs turned -/
theorem sel_two {p : Nat → Bool} {a b : Nat} (hab : a ≠ b) (ha : p a = true) (hb : p b = true) : ∀ k, (∀ i, i < k → i ≠ a → i ≠ b → p i = false) → (sel p k).length = (if a < k then 1 else 0) + (if b < k then 1 else 0)
  | 0, _ => by simp [sel]
  | k + 1, h => by
    have ih := sel_two hab ha hb k fun i hi => h i (by omega)
    simp only [sel]
    by_cases h1 : k = a
    · subst h1
      rw [if_pos ha, List.length_append, ih, List.length_singleton]
      (repeat' split) <;> omega
    · by_cases h2 : k = b
      · subst h2
        rw [if_pos hb, List.length_append, ih, List.length_singleton]
        (repeat' split) <;> omega
      · rw [h k (by omega) h1 h2, if_neg (by simp), ih]
        (repeat' split) <;> omega
theorem two_wrong (B : List Bool) (Q K y x y' x' : Nat) (hQ : 1 ≤ Q ∧ Q ≤ 40) (hK : 1 ≤ K ∧ K ≤ 64) (hy : y < K + 1) (hx : x < Q + 1) (hy' : y' < K + 1) (hx' : x' < Q + 1) (hne : ¬ (x = x' ∧ y = y')) :
    decE Q (flip (flip (encV B Q K) y x) y' x') = 30 ∧ mendE Q (flip (flip (encV B Q K) y x) y' x') = 30 ∧ mendS Q (flip (flip (encV B Q K) y x) y' x') = ((0 : Int), [], (0 : Int), (0 : Int), false) := by
  have hv := valid_flip (valid_flip (enc_valid B Q K hQ hK) y x) y' x'
  have hl := encV_len B Q K
  have hr := encV_row B Q K y hy
  have hr' := encV_row B Q K y' hy'
  have hfl := flip_len (encV B Q K) y x
  have hfr := flip_row (encV B Q K) y x y' (by omega)
  have hfl2 := flip_len (flip (encV B Q K) y x) y' x'
  have hE : wrongE Q (flip (flip (encV B Q K) y x) y' x') = 0 := by simp [wrongE, hv]
  have hc : ∀ k, k < K + 1 → cardP (flip (flip (encV B Q K) y x) y' x') k = if k = y' then (if k = y then false else true) else (if k = y then true else false) := fun k hk => by
    rw [flip_card _ y' x' k (by omega) (by omega) (by omega), flip_card _ y x k (by omega) (by omega) (by omega), encV_card B Q K k hk]
    split <;> split <;> rfl
  have hp : ∀ z, z < Q + 1 → placeP (flip (flip (encV B Q K) y x) y' x') z = if z = x' then (if z = x then false else true) else (if z = x then true else false) := fun z hz => by
    rw [flip_place _ y' x' z (by omega) (by omega), flip_place _ y x z (by omega) (by omega), encV_place B Q K z hz]
    split <;> split <;> rfl
  have hA : wrongA Q (flip (flip (encV B Q K) y x) y' x') = sel (cardP (flip (flip (encV B Q K) y x) y' x')) (K + 1) := by
    simp only [wrongA, hv, if_true]; rw [hfl2, hfl, hl]
  have hB : wrongB Q (flip (flip (encV B Q K) y x) y' x') = sel (placeP (flip (flip (encV B Q K) y x) y' x')) (Q + 1) := by
    simp only [wrongB, hv, if_true]; rw [show ((Q : Int) + 1).toNat = Q + 1 by omega]
  have key : (wrongA Q (flip (flip (encV B Q K) y x) y' x')).length = 2 ∨ (wrongB Q (flip (flip (encV B Q K) y x) y' x')).length = 2 := by
    by_cases e : y = y'
    · right
      have e2 : x ≠ x' := fun e2 => hne ⟨e2, e⟩
      rw [hB, sel_two e2 (by rw [hp x hx, if_neg e2, if_pos rfl]) (by rw [hp x' hx', if_pos rfl, if_neg (fun h => e2 h.symm)]) (Q + 1) (fun i hi h1 h2 => by rw [hp i hi, if_neg h2, if_neg h1]), if_pos hx, if_pos hx']
    · left
      rw [hA, sel_two e (by rw [hc y hy, if_neg e, if_pos rfl]) (by rw [hc y' hy', if_pos rfl, if_neg (fun h => e h.symm)]) (K + 1) (fun i hi h1 h2 => by rw [hc i hi, if_neg h2, if_neg h1]), if_pos hy, if_pos hy']
  have k1 : ¬ (wrongA Q (flip (flip (encV B Q K) y x) y' x') = [] ∧ wrongB Q (flip (flip (encV B Q K) y x) y' x') = []) := fun h => by
    rw [h.1, h.2] at key; simp at key
  have k2 : ¬ ((wrongA Q (flip (flip (encV B Q K) y x) y' x')).length = 1 ∧ (wrongB Q (flip (flip (encV B Q K) y x) y' x')).length = 1) := fun h => by omega
  refine ⟨?_, ?_, ?_⟩
  · unfold decE; rw [if_pos hE, if_neg k1]
  · unfold mendE; rw [if_pos hE, if_neg k1, if_neg k2]
  · unfold mendS; rw [if_pos hE, if_neg k1, if_neg k2]
/-- a peg turned: the rows stay its own -/
theorem NC.flipN {w : World} {h : Heap} {n0 nx : Nat} {u : Value} {ss : List Value} {V : List (List Bool)} (t : NC w h n0 nx u ss V) {y x i c : Nat} {g : Bool} {b : Bool} (hy : y < V.length) (hi : ss[y]! = .slice (some ⟨i, 0, some 0⟩) V[y]!.length c) (hu : bidN u ≠ i + 1) (hg : hget h i = some ⟨V[y]!.map Value.bool, 1, g, 4⟩) :
    NC w (hset h i ⟨(V[y]!.set x b).map Value.bool, 1, g, 4⟩) n0 nx u ss (V.set y (V[y]!.set x b)) := by
  have hl : (V.set y (V[y]!.set x b)).length = V.length := List.length_set ..
  refine ⟨t.flip hy hi hu, fun k hk => ?_, fun k k' hk hk' hne => t.sep k k' (by omega) (by omega) hne, t.fv⟩
  rw [hl] at hk
  obtain ⟨i', c', g', r1, r2, r3, r4⟩ := t.row k hk
  by_cases hky : k = y
  · subst hky
    rw [hi] at r1
    cases r1
    rw [get_set_eq _ _ _ hk]
    exact ⟨i, c, g, by rw [List.length_set]; exact hi, r2, by rw [hget_set_self, hg]; rfl, hu⟩
  · rw [get_set_ne _ _ _ _ (fun e => hky e.symm)]
    refine ⟨i', c', g', r1, r2, ?_, r4⟩
    have := t.sep k y hk hy hky
    rw [r1, hi] at this
    simp only [bidN, bidA] at this
    rw [hget_set_ne _ _ _ _ (by omega)]
    exact r3
end Go.Proofs.YtepdkmdcainddaaDoor
-- lib2
namespace Go.Proofs.YtepdkmdcainddaaDoor
open Go Go.Itp
set_option linter.unusedSimpArgs false
set_option linter.unusedVariables false
set_option maxRecDepth 100000
set_option maxHeartbeats 2000000
attribute [local irreducible] Does
section
variable (w : World) (n : Nat) {vB : Value} {B : List Bool}
theorem two_law (h : Heap) (nx : Nat) (t : GI w h nx vB B) (a b x y x' y' : Int) (ha : -9223372036854775808 ≤ a ∧ a ≤ 9223372036854775807) (hb : -9223372036854775808 ≤ b ∧ b ≤ 9223372036854775807) :
    ∃ r s', body (EN w (n + 6)) c5 [.agg [.int .i64 a, .int .i64 b, vB].toArray, .int .i64 x, .int .i64 y, .int .i64 x', .int .i64 y'] ⟨h, nx, nx⟩ = some (r, s') ∧ r = .bool true := by
  refine body_w (Nat.le_of_ble_eq_true rfl) ?_
  have t1 := t.push [⟨[.int .i64 a, .int .i64 b, vB], 1, false, 24⟩] (nx' := nx + 1) (by omega)
  have hf := fit_p w (n + 3) (p := nx) t1 a b ha hb
  cases hfit : fitS a b B.length
  · rw [hfit] at hf
    repeat' (first | (simp (disch := first | omega | assumption | (exact id (by with_unfolding_all rfl)) | ((refine all_cons _ _ (by first | assumption | exact id (by with_unfolding_all rfl)) ?_); (repeat' (first | exact List.all_nil | refine all_cons _ _ (by first | assumption | exact id (by with_unfolding_all rfl)) ?_)); done) |  exact callP_old _ _ _ _ _ | exact one_int _ _ | exact one_bool _ | exact one_string _ | exact one_slice _ _ _ | exact one_pointer _ | exact hget_push_one _ _ _ _ (by omega) | (simp only [List.length_map, List.length_set, List.length_replicate, List.length_cons, List.length_nil]; omega) | (rw [hget_push_lt _ _ _ _ (by omega)]; first | assumption | exact hget_push_one _ _ _ _ (by omega))) only [WW0, WW1, WW2, WW3, WW4, WW5, WW6, WW7, Option.map_some, args0, slotsL, opdsA, List.cons_append, List.nil_append, List.map_cons, List.map_nil, List.append_nil, Option.toList_some, Option.toList_none, Nat.reduceEqDiff, Nat.reduceLT, Nat.reduceAdd, Nat.reduceBEq, Int.reduceAdd, Int.reduceSub, Int.reduceLT, Int.reduceLE, Int.reduceEq, Int.reduceNeg, ↓reduceIte, if_true, if_false, Bool.false_eq_true, Bool.not_true, Bool.not_false, List.length_cons, List.length_nil, List.length_singleton, reduceCtorEq, Int.toNat_natCast, Nat.zero_add, Nat.add_zero, Int.add_sub_cancel, eq_self, List.drop_zero, List.drop_succ_cons, Option.some.injEq, Prod.mk.injEq, mkFnA, Bool.and_true, Bool.true_and, Bool.and_self, c5, alive_p, hf]) | (refine does_goI_dec (fun _ => ?_) (fun _ => ?_)) | (refine does_goG_dec (fun _ => ?_) (fun _ => ?_)) | (refine does_goI (fun _ => ?_) (fun _ => ?_)) | (refine does_goG (fun _ => ?_) (fun _ => ?_)))
  rw [hfit] at hf
  by_cases h1 : x < 0
  · repeat' (first | (simp (disch := first | omega | assumption | (exact id (by with_unfolding_all rfl)) | ((refine all_cons _ _ (by first | assumption | exact id (by with_unfolding_all rfl)) ?_); (repeat' (first | exact List.all_nil | refine all_cons _ _ (by first | assumption | exact id (by with_unfolding_all rfl)) ?_)); done) |  exact callP_old _ _ _ _ _ | exact one_int _ _ | exact one_bool _ | exact one_string _ | exact one_slice _ _ _ | exact one_pointer _ | exact hget_push_one _ _ _ _ (by omega) | (simp only [List.length_map, List.length_set, List.length_replicate, List.length_cons, List.length_nil]; omega) | (rw [hget_push_lt _ _ _ _ (by omega)]; first | assumption | exact hget_push_one _ _ _ _ (by omega))) only [WW0, WW1, WW2, WW3, WW4, WW5, WW6, WW7, Option.map_some, args0, slotsL, opdsA, List.cons_append, List.nil_append, List.map_cons, List.map_nil, List.append_nil, Option.toList_some, Option.toList_none, Nat.reduceEqDiff, Nat.reduceLT, Nat.reduceAdd, Nat.reduceBEq, Int.reduceAdd, Int.reduceSub, Int.reduceLT, Int.reduceLE, Int.reduceEq, Int.reduceNeg, ↓reduceIte, if_true, if_false, Bool.false_eq_true, Bool.not_true, Bool.not_false, List.length_cons, List.length_nil, List.length_singleton, reduceCtorEq, Int.toNat_natCast, Nat.zero_add, Nat.add_zero, Int.add_sub_cancel, eq_self, List.drop_zero, List.drop_succ_cons, Option.some.injEq, Prod.mk.injEq, mkFnA, Bool.and_true, Bool.true_and, Bool.and_self, c5, alive_p, hf]) | (refine does_goI_dec (fun _ => ?_) (fun _ => ?_)) | (refine does_goG_dec (fun _ => ?_) (fun _ => ?_)) | (refine does_goI (fun _ => ?_) (fun _ => ?_)) | (refine does_goG (fun _ => ?_) (fun _ => ?_)))
  by_cases h2 : a < x
  · repeat' (first | (simp (disch := first | omega | assumption | (exact id (by with_unfolding_all rfl)) | ((refine all_cons _ _ (by first | assumption | exact id (by with_unfolding_all rfl)) ?_); (repeat' (first | exact List.all_nil | refine all_cons _ _ (by first | assumption | exact id (by with_unfolding_all rfl)) ?_)); done) |  exact callP_old _ _ _ _ _ | exact one_int _ _ | exact one_bool _ | exact one_string _ | exact one_slice _ _ _ | exact one_pointer _ | exact hget_push_one _ _ _ _ (by omega) | (simp only [List.length_map, List.length_set, List.length_replicate, List.length_cons, List.length_nil]; omega) | (rw [hget_push_lt _ _ _ _ (by omega)]; first | assumption | exact hget_push_one _ _ _ _ (by omega))) only [WW0, WW1, WW2, WW3, WW4, WW5, WW6, WW7, Option.map_some, args0, slotsL, opdsA, List.cons_append, List.nil_append, List.map_cons, List.map_nil, List.append_nil, Option.toList_some, Option.toList_none, Nat.reduceEqDiff, Nat.reduceLT, Nat.reduceAdd, Nat.reduceBEq, Int.reduceAdd, Int.reduceSub, Int.reduceLT, Int.reduceLE, Int.reduceEq, Int.reduceNeg, ↓reduceIte, if_true, if_false, Bool.false_eq_true, Bool.not_true, Bool.not_false, List.length_cons, List.length_nil, List.length_singleton, reduceCtorEq, Int.toNat_natCast, Nat.zero_add, Nat.add_zero, Int.add_sub_cancel, eq_self, List.drop_zero, List.drop_succ_cons, Option.some.injEq, Prod.mk.injEq, mkFnA, Bool.and_true, Bool.true_and, Bool.and_self, c5, alive_p, hf]) | (refine does_goI_dec (fun _ => ?_) (fun _ => ?_)) | (refine does_goG_dec (fun _ => ?_) (fun _ => ?_)) | (refine does_goI (fun _ => ?_) (fun _ => ?_)) | (refine does_goG (fun _ => ?_) (fun _ => ?_)))
  by_cases h3 : y < 0
  · repeat' (first | (simp (disch := first | omega | assumption | (exact id (by with_unfolding_all rfl)) | ((refine all_cons _ _ (by first | assumption | exact id (by with_unfolding_all rfl)) ?_); (repeat' (first | exact List.all_nil | refine all_cons _ _ (by first | assumption | exact id (by with_unfolding_all rfl)) ?_)); done) |  exact callP_old _ _ _ _ _ | exact one_int _ _ | exact one_bool _ | exact one_string _ | exact one_slice _ _ _ | exact one_pointer _ | exact hget_push_one _ _ _ _ (by omega) | (simp only [List.length_map, List.length_set, List.length_replicate, List.length_cons, List.length_nil]; omega) | (rw [hget_push_lt _ _ _ _ (by omega)]; first | assumption | exact hget_push_one _ _ _ _ (by omega))) only [WW0, WW1, WW2, WW3, WW4, WW5, WW6, WW7, Option.map_some, args0, slotsL, opdsA, List.cons_append, List.nil_append, List.map_cons, List.map_nil, List.append_nil, Option.toList_some, Option.toList_none, Nat.reduceEqDiff, Nat.reduceLT, Nat.reduceAdd, Nat.reduceBEq, Int.reduceAdd, Int.reduceSub, Int.reduceLT, Int.reduceLE, Int.reduceEq, Int.reduceNeg, ↓reduceIte, if_true, if_false, Bool.false_eq_true, Bool.not_true, Bool.not_false, List.length_cons, List.length_nil, List.length_singleton, reduceCtorEq, Int.toNat_natCast, Nat.zero_add, Nat.add_zero, Int.add_sub_cancel, eq_self, List.drop_zero, List.drop_succ_cons, Option.some.injEq, Prod.mk.injEq, mkFnA, Bool.and_true, Bool.true_and, Bool.and_self, c5, alive_p, hf]) | (refine does_goI_dec (fun _ => ?_) (fun _ => ?_)) | (refine does_goG_dec (fun _ => ?_) (fun _ => ?_)) | (refine does_goI (fun _ => ?_) (fun _ => ?_)) | (refine does_goG (fun _ => ?_) (fun _ => ?_)))
  by_cases h4 : b < y
  · repeat' (first | (simp (disch := first | omega | assumption | (exact id (by with_unfolding_all rfl)) | ((refine all_cons _ _ (by first | assumption | exact id (by with_unfolding_all rfl)) ?_); (repeat' (first | exact List.all_nil | refine all_cons _ _ (by first | assumption | exact id (by with_unfolding_all rfl)) ?_)); done) |  exact callP_old _ _ _ _ _ | exact one_int _ _ | exact one_bool _ | exact one_string _ | exact one_slice _ _ _ | exact one_pointer _ | exact hget_push_one _ _ _ _ (by omega) | (simp only [List.length_map, List.length_set, List.length_replicate, List.length_cons, List.length_nil]; omega) | (rw [hget_push_lt _ _ _ _ (by omega)]; first | assumption | exact hget_push_one _ _ _ _ (by omega))) only [WW0, WW1, WW2, WW3, WW4, WW5, WW6, WW7, Option.map_some, args0, slotsL, opdsA, List.cons_append, List.nil_append, List.map_cons, List.map_nil, List.append_nil, Option.toList_some, Option.toList_none, Nat.reduceEqDiff, Nat.reduceLT, Nat.reduceAdd, Nat.reduceBEq, Int.reduceAdd, Int.reduceSub, Int.reduceLT, Int.reduceLE, Int.reduceEq, Int.reduceNeg, ↓reduceIte, if_true, if_false, Bool.false_eq_true, Bool.not_true, Bool.not_false, List.length_cons, List.length_nil, List.length_singleton, reduceCtorEq, Int.toNat_natCast, Nat.zero_add, Nat.add_zero, Int.add_sub_cancel, eq_self, List.drop_zero, List.drop_succ_cons, Option.some.injEq, Prod.mk.injEq, mkFnA, Bool.and_true, Bool.true_and, Bool.and_self, c5, alive_p, hf]) | (refine does_goI_dec (fun _ => ?_) (fun _ => ?_)) | (refine does_goG_dec (fun _ => ?_) (fun _ => ?_)) | (refine does_goI (fun _ => ?_) (fun _ => ?_)) | (refine does_goG (fun _ => ?_) (fun _ => ?_)))
  by_cases h5 : x' < 0
  · repeat' (first | (simp (disch := first | omega | assumption | (exact id (by with_unfolding_all rfl)) | ((refine all_cons _ _ (by first | assumption | exact id (by with_unfolding_all rfl)) ?_); (repeat' (first | exact List.all_nil | refine all_cons _ _ (by first | assumption | exact id (by with_unfolding_all rfl)) ?_)); done) |  exact callP_old _ _ _ _ _ | exact one_int _ _ | exact one_bool _ | exact one_string _ | exact one_slice _ _ _ | exact one_pointer _ | exact hget_push_one _ _ _ _ (by omega) | (simp only [List.length_map, List.length_set, List.length_replicate, List.length_cons, List.length_nil]; omega) | (rw [hget_push_lt _ _ _ _ (by omega)]; first | assumption | exact hget_push_one _ _ _ _ (by omega))) only [WW0, WW1, WW2, WW3, WW4, WW5, WW6, WW7, Option.map_some, args0, slotsL, opdsA, List.cons_append, List.nil_append, List.map_cons, List.map_nil, List.append_nil, Option.toList_some, Option.toList_none, Nat.reduceEqDiff, Nat.reduceLT, Nat.reduceAdd, Nat.reduceBEq, Int.reduceAdd, Int.reduceSub, Int.reduceLT, Int.reduceLE, Int.reduceEq, Int.reduceNeg, ↓reduceIte, if_true, if_false, Bool.false_eq_true, Bool.not_true, Bool.not_false, List.length_cons, List.length_nil, List.length_singleton, reduceCtorEq, Int.toNat_natCast, Nat.zero_add, Nat.add_zero, Int.add_sub_cancel, eq_self, List.drop_zero, List.drop_succ_cons, Option.some.injEq, Prod.mk.injEq, mkFnA, Bool.and_true, Bool.true_and, Bool.and_self, c5, alive_p, hf]) | (refine does_goI_dec (fun _ => ?_) (fun _ => ?_)) | (refine does_goG_dec (fun _ => ?_) (fun _ => ?_)) | (refine does_goI (fun _ => ?_) (fun _ => ?_)) | (refine does_goG (fun _ => ?_) (fun _ => ?_)))
  by_cases h6 : a < x'
  · repeat' (first | (simp (disch := first | omega | assumption | (exact id (by with_unfolding_all rfl)) | ((refine all_cons _ _ (by first | assumption | exact id (by with_unfolding_all rfl)) ?_); (repeat' (first | exact List.all_nil | refine all_cons _ _ (by first | assumption | exact id (by with_unfolding_all rfl)) ?_)); done) |  exact callP_old _ _ _ _ _ | exact one_int _ _ | exact one_bool _ | exact one_string _ | exact one_slice _ _ _ | exact one_pointer _ | exact hget_push_one _ _ _ _ (by omega) | (simp only [List.length_map, List.length_set, List.length_replicate, List.length_cons, List.length_nil]; omega) | (rw [hget_push_lt _ _ _ _ (by omega)]; first | assumption | exact hget_push_one _ _ _ _ (by omega))) only [WW0, WW1, WW2, WW3, WW4, WW5, WW6, WW7, Option.map_some, args0, slotsL, opdsA, List.cons_append, List.nil_append, List.map_cons, List.map_nil, List.append_nil, Option.toList_some, Option.toList_none, Nat.reduceEqDiff, Nat.reduceLT, Nat.reduceAdd, Nat.reduceBEq, Int.reduceAdd, Int.reduceSub, Int.reduceLT, Int.reduceLE, Int.reduceEq, Int.reduceNeg, ↓reduceIte, if_true, if_false, Bool.false_eq_true, Bool.not_true, Bool.not_false, List.length_cons, List.length_nil, List.length_singleton, reduceCtorEq, Int.toNat_natCast, Nat.zero_add, Nat.add_zero, Int.add_sub_cancel, eq_self, List.drop_zero, List.drop_succ_cons, Option.some.injEq, Prod.mk.injEq, mkFnA, Bool.and_true, Bool.true_and, Bool.and_self, c5, alive_p, hf]) | (refine does_goI_dec (fun _ => ?_) (fun _ => ?_)) | (refine does_goG_dec (fun _ => ?_) (fun _ => ?_)) | (refine does_goI (fun _ => ?_) (fun _ => ?_)) | (refine does_goG (fun _ => ?_) (fun _ => ?_)))
  by_cases h7 : y' < 0
  · repeat' (first | (simp (disch := first | omega | assumption | (exact id (by with_unfolding_all rfl)) | ((refine all_cons _ _ (by first | assumption | exact id (by with_unfolding_all rfl)) ?_); (repeat' (first | exact List.all_nil | refine all_cons _ _ (by first | assumption | exact id (by with_unfolding_all rfl)) ?_)); done) |  exact callP_old _ _ _ _ _ | exact one_int _ _ | exact one_bool _ | exact one_string _ | exact one_slice _ _ _ | exact one_pointer _ | exact hget_push_one _ _ _ _ (by omega) | (simp only [List.length_map, List.length_set, List.length_replicate, List.length_cons, List.length_nil]; omega) | (rw [hget_push_lt _ _ _ _ (by omega)]; first | assumption | exact hget_push_one _ _ _ _ (by omega))) only [WW0, WW1, WW2, WW3, WW4, WW5, WW6, WW7, Option.map_some, args0, slotsL, opdsA, List.cons_append, List.nil_append, List.map_cons, List.map_nil, List.append_nil, Option.toList_some, Option.toList_none, Nat.reduceEqDiff, Nat.reduceLT, Nat.reduceAdd, Nat.reduceBEq, Int.reduceAdd, Int.reduceSub, Int.reduceLT, Int.reduceLE, Int.reduceEq, Int.reduceNeg, ↓reduceIte, if_true, if_false, Bool.false_eq_true, Bool.not_true, Bool.not_false, List.length_cons, List.length_nil, List.length_singleton, reduceCtorEq, Int.toNat_natCast, Nat.zero_add, Nat.add_zero, Int.add_sub_cancel, eq_self, List.drop_zero, List.drop_succ_cons, Option.some.injEq, Prod.mk.injEq, mkFnA, Bool.and_true, Bool.true_and, Bool.and_self, c5, alive_p, hf]) | (refine does_goI_dec (fun _ => ?_) (fun _ => ?_)) | (refine does_goG_dec (fun _ => ?_) (fun _ => ?_)) | (refine does_goI (fun _ => ?_) (fun _ => ?_)) | (refine does_goG (fun _ => ?_) (fun _ => ?_)))
  by_cases h8 : b < y'
  · repeat' (first | (simp (disch := first | omega | assumption | (exact id (by with_unfolding_all rfl)) | ((refine all_cons _ _ (by first | assumption | exact id (by with_unfolding_all rfl)) ?_); (repeat' (first | exact List.all_nil | refine all_cons _ _ (by first | assumption | exact id (by with_unfolding_all rfl)) ?_)); done) |  exact callP_old _ _ _ _ _ | exact one_int _ _ | exact one_bool _ | exact one_string _ | exact one_slice _ _ _ | exact one_pointer _ | exact hget_push_one _ _ _ _ (by omega) | (simp only [List.length_map, List.length_set, List.length_replicate, List.length_cons, List.length_nil]; omega) | (rw [hget_push_lt _ _ _ _ (by omega)]; first | assumption | exact hget_push_one _ _ _ _ (by omega))) only [WW0, WW1, WW2, WW3, WW4, WW5, WW6, WW7, Option.map_some, args0, slotsL, opdsA, List.cons_append, List.nil_append, List.map_cons, List.map_nil, List.append_nil, Option.toList_some, Option.toList_none, Nat.reduceEqDiff, Nat.reduceLT, Nat.reduceAdd, Nat.reduceBEq, Int.reduceAdd, Int.reduceSub, Int.reduceLT, Int.reduceLE, Int.reduceEq, Int.reduceNeg, ↓reduceIte, if_true, if_false, Bool.false_eq_true, Bool.not_true, Bool.not_false, List.length_cons, List.length_nil, List.length_singleton, reduceCtorEq, Int.toNat_natCast, Nat.zero_add, Nat.add_zero, Int.add_sub_cancel, eq_self, List.drop_zero, List.drop_succ_cons, Option.some.injEq, Prod.mk.injEq, mkFnA, Bool.and_true, Bool.true_and, Bool.and_self, c5, alive_p, hf]) | (refine does_goI_dec (fun _ => ?_) (fun _ => ?_)) | (refine does_goG_dec (fun _ => ?_) (fun _ => ?_)) | (refine does_goI (fun _ => ?_) (fun _ => ?_)) | (refine does_goG (fun _ => ?_) (fun _ => ?_)))
  by_cases h9 : x = x' ∧ y = y'
  · obtain ⟨rfl, rfl⟩ := h9
    repeat' (first | (simp (disch := first | omega | assumption | (exact id (by with_unfolding_all rfl)) | ((refine all_cons _ _ (by first | assumption | exact id (by with_unfolding_all rfl)) ?_); (repeat' (first | exact List.all_nil | refine all_cons _ _ (by first | assumption | exact id (by with_unfolding_all rfl)) ?_)); done) |  exact callP_old _ _ _ _ _ | exact one_int _ _ | exact one_bool _ | exact one_string _ | exact one_slice _ _ _ | exact one_pointer _ | exact hget_push_one _ _ _ _ (by omega) | (simp only [List.length_map, List.length_set, List.length_replicate, List.length_cons, List.length_nil]; omega) | (rw [hget_push_lt _ _ _ _ (by omega)]; first | assumption | exact hget_push_one _ _ _ _ (by omega))) only [WW0, WW1, WW2, WW3, WW4, WW5, WW6, WW7, Option.map_some, args0, slotsL, opdsA, List.cons_append, List.nil_append, List.map_cons, List.map_nil, List.append_nil, Option.toList_some, Option.toList_none, Nat.reduceEqDiff, Nat.reduceLT, Nat.reduceAdd, Nat.reduceBEq, Int.reduceAdd, Int.reduceSub, Int.reduceLT, Int.reduceLE, Int.reduceEq, Int.reduceNeg, ↓reduceIte, if_true, if_false, Bool.false_eq_true, Bool.not_true, Bool.not_false, List.length_cons, List.length_nil, List.length_singleton, reduceCtorEq, Int.toNat_natCast, Nat.zero_add, Nat.add_zero, Int.add_sub_cancel, eq_self, List.drop_zero, List.drop_succ_cons, Option.some.injEq, Prod.mk.injEq, mkFnA, Bool.and_true, Bool.true_and, Bool.and_self, c5, alive_p, hf]) | (refine does_goI_dec (fun _ => ?_) (fun _ => ?_)) | (refine does_goG_dec (fun _ => ?_) (fun _ => ?_)) | (refine does_goI (fun _ => ?_) (fun _ => ?_)) | (refine does_goG (fun _ => ?_) (fun _ => ?_)))
  obtain ⟨e1, e2, e3, e4, e5, e6⟩ := fit_out hfit
  obtain ⟨Q, rfl⟩ : ∃ Q : Nat, a = (Q : Int) := ⟨a.toNat, by omega⟩
  obtain ⟨K, rfl⟩ : ∃ K : Nat, b = (K : Int) := ⟨b.toNat, by omega⟩
  obtain ⟨X, rfl⟩ : ∃ X : Nat, x = (X : Int) := ⟨x.toNat, by omega⟩
  obtain ⟨Y, rfl⟩ : ∃ Y : Nat, y = (Y : Int) := ⟨y.toNat, by omega⟩
  obtain ⟨X', rfl⟩ : ∃ X' : Nat, x' = (X' : Int) := ⟨x'.toNat, by omega⟩
  obtain ⟨Y', rfl⟩ : ∃ Y' : Nat, y' = (Y' : Int) := ⟨y'.toNat, by omega⟩
  have hnd : ¬ (X = X' ∧ Y = Y') := fun e => h9 (by rw [e.1, e.2]; exact ⟨rfl, rfl⟩)
  obtain ⟨H1, hH1⟩ : ∃ H1, H1 = hpush h nx [⟨[.int .i64 Q, .int .i64 K, vB], 1, false, 24⟩] := ⟨_, rfl⟩
  rw [← hH1] at t1 hf
  have hBL : B.length = Q * K := by have : ((Q * K : Nat) : Int) = (Q : Int) * (K : Int) := by simp
                                    omega
  obtain ⟨u, ss, h2, n2, cl2, x12, m2, hN⟩ := encode_w w (n + 2) t1 Q K e1 (by omega) (by omega) hBL (p := nx) (by omega)
  have hQ : 1 ≤ Q ∧ Q ≤ 40 := by omega
  have hK : 1 ≤ K ∧ K ≤ 64 := by omega
  have hY : Y < K + 1 := by omega
  have hX : X < Q + 1 := by omega
  have hEl := encV_len B Q K
  have hEr := encV_row B Q K Y hY
  have hval := enc_valid B Q K hQ hK
  have hY' : Y' < K + 1 := by omega
  have hX' : X' < Q + 1 := by omega
  have hEr' := encV_row B Q K Y' hY'
  obtain ⟨m2D, m2E, m2S⟩ := two_wrong B Q K Y X Y' X' hQ hK hY hX hY' hX' hnd
  obtain ⟨L, hL⟩ : ∃ L, L = encV B Q K := ⟨_, rfl⟩
  rw [← hL] at hN hEl hEr hEr' hval m2E m2S m2D
  have hqq : -9223372036854775808 ≤ (Q : Int) ∧ (Q : Int) ≤ 9223372036854775807 := by omega
  have b1 : hget H1 nx = some ⟨[.int .i64 Q, .int .i64 K, vB], 1, false, 24⟩ := by subst hH1; exact hget_push_one _ _ _ _ rfl
  have u2 := hN.cb
  have o1 := u2.v.one
  have i2 := fun xs s => imp (n + 5) 13 xs s w rfl
  obtain ⟨H3, hH3⟩ : ∃ H3, H3 = hset (hpush h2 n2 [⟨[.int .i64 0, .slice none 0 0], 1, false, 34⟩]) n2 ⟨[.int .i64 Q, u], 1, false, 34⟩ := ⟨_, rfl⟩
  have x23 : HX n2 h2 H3 := by subst hH3; exact ((HX.refl _ _).push _ (Nat.le_refl _)).set _ (Nat.le_refl _)
  have u3 := u2.hx x23 (nx' := n2 + 1) (by omega)
  have d3 : hget H3 n2 = some ⟨[.int .i64 Q, u], 1, false, 34⟩ := by subst hH3; rw [hget_set_self, hget_push_one _ _ _ _ rfl]; rfl
  have b3 : hget H3 nx = some ⟨[.int .i64 Q, .int .i64 K, vB], 1, false, 24⟩ := by rw [x23 _ (by omega), x12 _ (by omega)]; exact b1
  have s0 := chain_p w (n + 5) (p := nx) u3 Q hqq
  rw [hval, if_pos rfl] at s0
  have l3 := u3.v.len
  rw [show ss.length = K + 1 by rw [u2.len, hEl]] at l3
  obtain ⟨u4, ss4, h4, n4, cl4, x34, m4, hN4⟩ := twin_w w (n + 5) u3 Q (p := nx) (by omega)
  have o4 := hN4.cb.v.one
  have i4 := fun xs s => imp (n + 5) 22 xs s w rfl
  have d4 : hget h4 n2 = some ⟨[.int .i64 Q, u], 1, false, 34⟩ := by rw [x34 _ (by omega)]; exact d3
  obtain ⟨H5, hH5⟩ : ∃ H5, H5 = hset (hpush h4 n4 [⟨[.int .i64 0, .slice none 0 0], 1, false, 34⟩]) n4 ⟨[.int .i64 Q, u4], 1, false, 34⟩ := ⟨_, rfl⟩
  have x45 : HX n4 h4 H5 := by subst hH5; exact ((HX.refl _ _).push _ (Nat.le_refl _)).set _ (Nat.le_refl _)
  have N5 := hN4.hx x45 (nx' := n4 + 1) (by omega)
  have d5 : hget H5 n4 = some ⟨[.int .i64 Q, u4], 1, false, 34⟩ := by subst hH5; rw [hget_set_self, hget_push_one _ _ _ _ rfl]; rfl
  obtain ⟨i, c, g, hi, hni, hgi, hui⟩ := N5.row Y (by omega)
  have hib : i + 1 ≤ n4 := by
    have := hN4.cb.br Y (by omega)
    rw [hi] at this
    simpa [bidN, bidA] using this
  have hYl := (N5.cb.r Y (by omega))
  rw [hi] at hYl
  have hXl : X < L[Y]!.length := by omega
  have k2 := hYl.load X hXl
  have k3 := hYl.idx .i64 X (by omega) (by omega)
  obtain ⟨H6, hH6⟩ : ∃ H6, H6 = hset H5 i ⟨(L[Y]!.set X (!L[Y]![X]!)).map Value.bool, 1, g, 4⟩ := ⟨_, rfl⟩
  have N6 : NC w H6 (n2 + 1) (n4 + 1) u4 ss4 (flip L Y X) := by subst hH6; exact N5.flipN (x := X) (g := g) (b := !L[Y]![X]!) (by omega) hi hui hgi
  have hfl := flip_len L Y X
  have hfr := flip_row L Y X Y' (by omega)
  obtain ⟨F, hF⟩ : ∃ F, F = flip L Y X := ⟨_, rfl⟩
  rw [← hF] at N6 hfl hfr m2E m2S m2D
  obtain ⟨i', c', g', hi', hni', hgi', hui'⟩ := N6.row Y' (by omega)
  have hib' : i' + 1 ≤ n4 := by
    have q1 := hN4.row Y' (by omega)
    obtain ⟨j, cj, gj, r1, r2, r3, r4⟩ := q1
    have q2 := hN4.cb.br Y' (by omega)
    rw [hi'] at q2
    simpa [bidN, bidA] using q2
  have x36 : HX (n2 + 1) H3 H6 := by subst hH6; exact (x34.trans x45 m4).set _ (by omega)
  have d6 : hget H6 n4 = some ⟨[.int .i64 Q, u4], 1, false, 34⟩ := by subst hH6; rw [hget_set_ne _ _ _ _ (by omega)]; exact d5
  obtain ⟨H7, hH7⟩ : ∃ H7, H7 = hset H6 i' ⟨(F[Y']!.set X' (!F[Y']![X']!)).map Value.bool, 1, g', 4⟩ := ⟨_, rfl⟩
  have u7 : CB w H7 (n4 + 1) u4 ss4 (flip F Y' X') := by subst hH7; exact N6.flip (x := X') (g := g') (b := !F[Y']![X']!) (by omega) hi' hui'
  have d7 : hget H7 n4 = some ⟨[.int .i64 Q, u4], 1, false, 34⟩ := by subst hH7; rw [hget_set_ne _ _ _ _ (by omega)]; exact d6
  obtain ⟨gg, h8, n8, cl8, x78, m8, hg⟩ := decode_w w n u7 Q hqq (p := nx) (by omega)
  obtain ⟨ga, gb, gv, rfl, hgb, hgr⟩ := hg.is
  rw [m2D] at cl8 hgr
  rw [if_neg (by omega)] at hgr
  obtain ⟨rfl, rfl, hgr⟩ := hgr
  have o8 := hgr.one
  have i8 := fun xs s => imp (n + 5) 24 xs s w rfl
  have d8 : hget h8 n4 = some ⟨[.int .i64 Q, u4], 1, false, 34⟩ := by rw [x78 _ (by omega)]; exact d7
  obtain ⟨H9, hH9⟩ : ∃ H9, H9 = hset (hpush h8 n8 [⟨[.int .i64 0, .int .i64 0, .slice none 0 0], 1, false, 24⟩]) n8 ⟨[.int .i64 0, .int .i64 0, gv], 1, false, 24⟩ := ⟨_, rfl⟩
  have x89 : HX n8 h8 H9 := by subst hH9; exact ((HX.refl _ _).push _ (Nat.le_refl _)).set _ (Nat.le_refl _)
  have x79 := x78.trans x89 m8
  have d9 : hget H9 n4 = some ⟨[.int .i64 Q, u4], 1, false, 34⟩ := by rw [x79 _ (by omega)]; exact d7
  have u9 := u7.hx x79 (nx' := n8 + 1) (by omega)
  obtain ⟨vm, h10, n10, cl10, x910, m10, hM⟩ := mend_w w n u9 Q hqq (p := nx) (by omega)
  obtain ⟨q', u', ss', V', xx, yy, cc, rfl, hC, hS⟩ := hM.is
  rw [m2S] at hS
  simp only [Prod.mk.injEq] at hS
  obtain ⟨rfl, rfl, rfl, rfl, rfl⟩ := hS
  rw [m2E] at cl10
  have o10 := hC.v.one
  have i10 := fun xs s => imp (n + 5) 23 xs s w rfl
  have hl5 := N5.cb.len
  have hl6 := N6.cb.len
  repeat' (first | (simp (disch := first | omega | assumption | (exact id (by with_unfolding_all rfl)) | ((refine all_cons _ _ (by first | assumption | exact id (by with_unfolding_all rfl)) ?_); (repeat' (first | exact List.all_nil | refine all_cons _ _ (by first | assumption | exact id (by with_unfolding_all rfl)) ?_)); done) |  exact callP_old _ _ _ _ _ | exact one_int _ _ | exact one_bool _ | exact one_string _ | exact one_slice _ _ _ | exact one_pointer _ | exact hget_push_one _ _ _ _ (by omega) | (simp only [List.length_map, List.length_set, List.length_replicate, List.length_cons, List.length_nil]; omega) | (rw [hget_push_lt _ _ _ _ (by omega)]; first | assumption | exact hget_push_one _ _ _ _ (by omega))) only [WW0, WW1, WW2, WW3, WW4, WW5, WW6, WW7, Option.map_some, args0, slotsL, opdsA, List.cons_append, List.nil_append, List.map_cons, List.map_nil, List.append_nil, Option.toList_some, Option.toList_none, Nat.reduceEqDiff, Nat.reduceLT, Nat.reduceAdd, Nat.reduceBEq, Int.reduceAdd, Int.reduceSub, Int.reduceLT, Int.reduceLE, Int.reduceEq, Int.reduceNeg, ↓reduceIte, if_true, if_false, Bool.false_eq_true, Bool.not_true, Bool.not_false, List.length_cons, List.length_nil, List.length_singleton, reduceCtorEq, Int.toNat_natCast, Nat.zero_add, Nat.add_zero, Int.add_sub_cancel, eq_self, List.drop_zero, List.drop_succ_cons, Option.some.injEq, Prod.mk.injEq, mkFnA, Bool.and_true, Bool.true_and, Bool.and_self, c5, alive_p, hf, zchain, ← hH1, b1, i2, cl2]) | (refine does_goI_dec (fun _ => ?_) (fun _ => ?_)) | (refine does_goG_dec (fun _ => ?_) (fun _ => ?_)) | (refine does_goI (fun _ => ?_) (fun _ => ?_)) | (refine does_goG (fun _ => ?_) (fun _ => ?_)))
  all_goals rw [← hH3]
  all_goals repeat' (first | (simp (disch := first | omega | assumption | (exact id (by with_unfolding_all rfl)) | ((refine all_cons _ _ (by first | assumption | exact id (by with_unfolding_all rfl)) ?_); (repeat' (first | exact List.all_nil | refine all_cons _ _ (by first | assumption | exact id (by with_unfolding_all rfl)) ?_)); done) |  exact callP_old _ _ _ _ _ | exact one_int _ _ | exact one_bool _ | exact one_string _ | exact one_slice _ _ _ | exact one_pointer _ | exact hget_push_one _ _ _ _ (by omega) | (simp only [List.length_map, List.length_set, List.length_replicate, List.length_cons, List.length_nil]; omega) | (rw [hget_push_lt _ _ _ _ (by omega)]; first | assumption | exact hget_push_one _ _ _ _ (by omega))) only [WW0, WW1, WW2, WW3, WW4, WW5, WW6, WW7, Option.map_some, args0, slotsL, opdsA, List.cons_append, List.nil_append, List.map_cons, List.map_nil, List.append_nil, Option.toList_some, Option.toList_none, Nat.reduceEqDiff, Nat.reduceLT, Nat.reduceAdd, Nat.reduceBEq, Int.reduceAdd, Int.reduceSub, Int.reduceLT, Int.reduceLE, Int.reduceEq, Int.reduceNeg, ↓reduceIte, if_true, if_false, Bool.false_eq_true, Bool.not_true, Bool.not_false, List.length_cons, List.length_nil, List.length_singleton, reduceCtorEq, Int.toNat_natCast, Nat.zero_add, Nat.add_zero, Int.add_sub_cancel, eq_self, List.drop_zero, List.drop_succ_cons, Option.some.injEq, Prod.mk.injEq, mkFnA, Bool.and_true, Bool.true_and, Bool.and_self, zchain, b3, d3, s0, l3, i4, cl4]) | (refine does_goI_dec (fun _ => ?_) (fun _ => ?_)) | (refine does_goG_dec (fun _ => ?_) (fun _ => ?_)) | (refine does_goI (fun _ => ?_) (fun _ => ?_)) | (refine does_goG (fun _ => ?_) (fun _ => ?_)))
  all_goals rw [← hH5]
  all_goals repeat' (first | (simp (disch := first | omega | assumption | (exact id (by with_unfolding_all rfl)) | ((refine all_cons _ _ (by first | assumption | exact id (by with_unfolding_all rfl)) ?_); (repeat' (first | exact List.all_nil | refine all_cons _ _ (by first | assumption | exact id (by with_unfolding_all rfl)) ?_)); done) |  exact callP_old _ _ _ _ _ | exact one_int _ _ | exact one_bool _ | exact one_string _ | exact one_slice _ _ _ | exact one_pointer _ | exact hget_push_one _ _ _ _ (by omega) | (simp only [List.length_map, List.length_set, List.length_replicate, List.length_cons, List.length_nil]; omega) | (rw [hget_push_lt _ _ _ _ (by omega)]; first | assumption | exact hget_push_one _ _ _ _ (by omega))) only [WW0, WW1, WW2, WW3, WW4, WW5, WW6, WW7, Option.map_some, args0, slotsL, opdsA, List.cons_append, List.nil_append, List.map_cons, List.map_nil, List.append_nil, Option.toList_some, Option.toList_none, Nat.reduceEqDiff, Nat.reduceLT, Nat.reduceAdd, Nat.reduceBEq, Int.reduceAdd, Int.reduceSub, Int.reduceLT, Int.reduceLE, Int.reduceEq, Int.reduceNeg, ↓reduceIte, if_true, if_false, Bool.false_eq_true, Bool.not_true, Bool.not_false, List.length_cons, List.length_nil, List.length_singleton, reduceCtorEq, Int.toNat_natCast, Nat.zero_add, Nat.add_zero, Int.add_sub_cancel, eq_self, List.drop_zero, List.drop_succ_cons, Option.some.injEq, Prod.mk.injEq, mkFnA, Bool.and_true, Bool.true_and, Bool.and_self, d5, hgi, hl5, N5.cb.v.idx, N5.cb.v.load, hi, ← hH6, d6, hgi', hl6, N6.cb.v.idx, N6.cb.v.load, hi', ← hH7, d7, i8, cl8, zgrid, d8]) | (refine does_goI_dec (fun _ => ?_) (fun _ => ?_)) | (refine does_goG_dec (fun _ => ?_) (fun _ => ?_)) | (refine does_goI (fun _ => ?_) (fun _ => ?_)) | (refine does_goG (fun _ => ?_) (fun _ => ?_)))
  all_goals rw [← hH9]
  all_goals repeat' (first | (simp (disch := first | omega | assumption | (exact id (by with_unfolding_all rfl)) | ((refine all_cons _ _ (by first | assumption | exact id (by with_unfolding_all rfl)) ?_); (repeat' (first | exact List.all_nil | refine all_cons _ _ (by first | assumption | exact id (by with_unfolding_all rfl)) ?_)); done) |  exact callP_old _ _ _ _ _ | exact one_int _ _ | exact one_bool _ | exact one_string _ | exact one_slice _ _ _ | exact one_pointer _ | exact hget_push_one _ _ _ _ (by omega) | (simp only [List.length_map, List.length_set, List.length_replicate, List.length_cons, List.length_nil]; omega) | (rw [hget_push_lt _ _ _ _ (by omega)]; first | assumption | exact hget_push_one _ _ _ _ (by omega))) only [WW0, WW1, WW2, WW3, WW4, WW5, WW6, WW7, Option.map_some, args0, slotsL, opdsA, List.cons_append, List.nil_append, List.map_cons, List.map_nil, List.append_nil, Option.toList_some, Option.toList_none, Nat.reduceEqDiff, Nat.reduceLT, Nat.reduceAdd, Nat.reduceBEq, Int.reduceAdd, Int.reduceSub, Int.reduceLT, Int.reduceLE, Int.reduceEq, Int.reduceNeg, ↓reduceIte, if_true, if_false, Bool.false_eq_true, Bool.not_true, Bool.not_false, List.length_cons, List.length_nil, List.length_singleton, reduceCtorEq, Int.toNat_natCast, Nat.zero_add, Nat.add_zero, Int.add_sub_cancel, eq_self, List.drop_zero, List.drop_succ_cons, Option.some.injEq, Prod.mk.injEq, mkFnA, Bool.and_true, Bool.true_and, Bool.and_self, zchain, d9, i10, cl10]) | (refine does_goI_dec (fun _ => ?_) (fun _ => ?_)) | (refine does_goG_dec (fun _ => ?_) (fun _ => ?_)) | (refine does_goI (fun _ => ?_) (fun _ => ?_)) | (refine does_goG (fun _ => ?_) (fun _ => ?_)))
end
end Go.Proofs.YtepdkmdcainddaaDoor
namespace Go.Proofs.YtepdkmdcainddaaDoor
open Go Go.Itp
open Go.ChangeShapes Go.WideShapes Go.ChangeAt Go.RowKit
set_option linter.unusedVariables false
set_option maxRecDepth 100000
set_option maxHeartbeats 4000000
theorem reach_lt : reachBytes ≤ 140737488351232 := by decide
def listed : List (String × DataW Unit) := [("math/bits.deBruijn32tab", Rows.laid_math_bits_deBruijn32tab), ("math/bits.deBruijn64tab", Rows.laid_math_bits_deBruijn64tab), ("internal/strconv.uint64pow10", Rows.laid_internal_strconv_uint64pow10)]
theorem listed_met (os : Os) (args : Array Value) : laidMetH Tryd.prog listed ((World.laidAll Tryd.prog os listed).forCall (fun _ _ => 0) ⟨#[], args, []⟩).memory := by
  rw [MakeChecks.laidMetH_plain _ _ _ (by kernel_rfl)]
  exact laidMet_laidAll _ (by kernel_rfl) (by kernel_rfl)
theorem listed_shaped (os : Os) : (World.laidAll Tryd.prog os listed).Shaped Tryd.prog := World.shaped_of_ZipB (by kernel_rfl) (by kernel_rfl)
/-- an argument that is a grid -/
theorem open_grid {H : Type} {enc : TypeId × Value → H} {W : World} {b : Nat} {held : Bool} {v : Value} {d : DataW H} {ps : List MemPlace} (hv : Value.okWide Tryd.prog W .any b 24 v) (h : DataW.Trod enc Tryd.prog W 0 (fun _ => true) held 24 v d ps)
    (hsz : ∀ n ∈ d.weights Tryd.prog 24, n ≤ reachBytes) :
    ∃ (x y : Int) (vB : Value) (B : List Bool), v = .agg [.int .i64 x, .int .i64 y, vB].toArray ∧ (∀ h, GI W h 0 vB B) ∧ ids 0 v = [] ∧ (-9223372036854775808 ≤ x ∧ x ≤ 9223372036854775807) ∧ (-9223372036854775808 ≤ y ∧ y ≤ 9223372036854775807) := by
  obtain ⟨n, a0, a1, a2, y0, y1, y2, rfl, e0, e1, e2, h0, h1, h2, w0, w1, w2⟩ := open_three Tryd.underlying24 rfl rfl rfl (by kernel_rfl) (by kernel_rfl) (by kernel_rfl) (by kernel_rfl) hv h hsz
  obtain ⟨x, k0, _, j0⟩ := DataW.trod_int Tryd.underlying3 h0
  simp only [List.cons.injEq, and_true] at k0
  subst k0
  obtain ⟨y, k1, _, j1⟩ := DataW.trod_int Tryd.underlying3 h1
  simp only [List.cons.injEq, and_true] at k1
  subst k1
  obtain ⟨B, v1, v2, v3⟩ := rd_bools Tryd.underlying22 Tryd.underlying4 (by kernel_rfl) (by rw [show Tryd.prog.bytesOf 4 = 1 by kernel_rfl]; decide) h2 w2
  rw [show Tryd.prog.bytesOf 4 = 1 by kernel_rfl] at v3
  rw [e2] at v1 v2
  have hr := reach_lt
  refine ⟨x, y, a2, B, rfl, fun h => ⟨v1 h, by omega, by omega⟩, ?_, wf64 j0, wf64 j1⟩
  rw [ids_agg, idsL_cons, idsL_cons, idsL_cons, abs_ids e2 v2 (trod_is_slice Tryd.underlying22 h2)]
  rfl
theorem stand_ins {l : List TypeId} {t : TypeId} (hall : (l.all fun u => !Tryd.prog.wantsStandIn u) = true) (h : t ∈ l) : Tryd.prog.wantsStandIn t = false := by
  have := List.all_eq_true.1 hall t h
  simpa using this
theorem two_lifted (os : Os) (started : os.Started) (H : Type) (enc : TypeId × Value → H) :
    ReturnsInHanded {} Tryd.checked os 5 .any (fun w args => (Rows.pegTwoSpec.pre enc Tryd.prog Tryd.f5 [] false w args ∧ laidMetH Tryd.prog listed w) ∧ sizedMet enc Tryd.prog Tryd.f5 (OpenSpec.ofChange Rows.pegTwoSpec) false w args)
      (Rows.pegTwoSpec.post enc Tryd.prog Tryd.f5 false true false false) := by
  refine returnsInHanded_of_change_and (C := Tryd.checked) (X := fun w _ => laidMetH Tryd.prog listed w) (fun _ _ _ hh h => h.of_heap hh) own started (by kernel_rfl) Tryd.func5
    (ChangeSpec.witness_shaped (enc := enc) (C := Tryd.checked) (os := os) (X := fun w _ => laidMetH Tryd.prog listed w) false (World.laidAll Tryd.prog os listed) #[.agg #[.int .i64 0, .int .i64 0, .slice none 0 0], .int .i64 0, .int .i64 0, .int .i64 0, .int .i64 0] 8 (World.laidAll_os _ _ _) (listed_shaped os) (by kernel_rfl) (by kernel_rfl) (by kernel_rfl) (listed_met os _)) ?_
  intro W base args ds gs before hval0 hW _ hsz0 hL _
  have hval : ∀ (j : Nat) t v, Tryd.f5.params[j]? = some t → args[j]? = some v → Value.okWide Tryd.prog W .any base t v := hval0
  have hW' := hW
  obtain ⟨p, q, hA0, hV, rfl, hfz, hnd⟩ := hW
  have hA : DataW.TrodAll enc Tryd.prog W 0 (fun _ => true) true Tryd.f5.params.toList args.toList ds p := hA0
  have hsz : (DataW.weightsEach Tryd.prog (Tryd.f5.params.toList ++ Rows.pegTwoSpec.plain.varTypes Tryd.prog) (ds ++ gs)).all (· ≤ reachBytes) = true := hsz0
  rw [Tryd.params5] at hA hval hsz
  obtain ⟨v0, vs0, d0, ds0, p0, q0, hargs, rfl, rfl, h0, r0⟩ := trodAll_cons hA
  obtain ⟨v1, vs1, d1, ds1, p1, q1, rfl, rfl, rfl, h1, r1⟩ := trodAll_cons r0
  obtain ⟨v2, vs2, d2, ds2, p2, q2, rfl, rfl, rfl, h2, r2⟩ := trodAll_cons r1
  obtain ⟨v3, vs3, d3, ds3, p3, q3, rfl, rfl, rfl, h3, r3⟩ := trodAll_cons r2
  obtain ⟨v4, vs4, d4, ds4, p4, q4, rfl, rfl, rfl, h4, r4⟩ := trodAll_cons r3
  obtain ⟨rfl, rfl, rfl⟩ := trodAll_nil r4
  obtain rfl : args = #[v0, v1, v2, v3, v4] := by cases args; simp_all
  obtain ⟨gx, gy, vB, B, rfl, ht, hi0, hgx, hgy⟩ := open_grid (hval 0 24 v0 rfl rfl) h0 (weights_at (j := 0) hsz rfl rfl)
  obtain ⟨x1, rfl, hx1⟩ := open_num Tryd.underlying3 (hval 1 3 v1 rfl rfl) h1
  obtain ⟨x2, rfl, hx2⟩ := open_num Tryd.underlying3 (hval 2 3 v2 rfl rfl) h2
  obtain ⟨x3, rfl, hx3⟩ := open_num Tryd.underlying3 (hval 3 3 v3 rfl rfl) h3
  obtain ⟨x4, rfl, hx4⟩ := open_num Tryd.underlying3 (hval 4 3 v4 rfl rfl) h4
  obtain ⟨r, s', hbody, rfl⟩ := two_law W 0 [] 0 (ht []) gx gy x1 x2 x3 x4 hgx hgy
  have hids : idsL 0 [.agg [.int .i64 gx, .int .i64 gy, vB].toArray, .int .i64 x1, .int .i64 x2, .int .i64 x3, .int .i64 x4] = [] := by simp only [idsL_cons, hi0]; rfl
  have hfn : fns 5 = some c5 := rfl
  have hrv : ids 0 (.bool true) = [] := rfl
  refine (law_of (f := 5) (af := c5) hfn hids _ hbody hrv).mono fun e W' ⟨he, hbe⟩ => ?_
  exact ⟨_, he, law_post hW' rfl rfl (by kernel_rfl) (by kernel_rfl) Tryd.underlying4 hbe⟩
theorem two_over : Rows.PegTwoSaid :=
  OpenClaim.holds_of_wide 5 Tryd.f5 rfl rfl rfl rfl rfl rfl rfl ⟨rfl, rfl, rfl, rfl, rfl⟩ rfl rfl rfl rfl rfl (by kernel_rfl) Tryd.func5 (by kernel_rfl)
    (of_decide_eq_true (by kernel_rfl)) (by unfold Func.isWrapper; first | (rw [if_pos (by decide +kernel)]; kernel_rfl) | (rw [if_neg (by decide +kernel)]; exact ⟨rfl, rfl⟩))
    (fun os started H enc _ => two_lifted os started H enc)
/-- the statement -/
theorem two_holds : Rows.PegTwoCardSaid :=
  Claim7.holds_tied_plain_at .later [] [.data, .data, .data] true _ true
    two_over (fun _ h => by cases h) (by kernel_rfl) (fun _ h => by cases h) pegTwo_row_tie rfl ⟨rfl, rfl⟩ (by kernel_rfl) rfl
    (fun f fn hf hfn => by
      obtain rfl : f = 5 := Option.some.inj ((show Tryd.prog.funcNamed "raddle/raddlelaw18.PegTwo" = some 5 by kernel_rfl).symm.trans hf) |>.symm
      obtain rfl : fn = Tryd.f5 := (Option.some.inj (Tryd.func5.symm.trans hfn)).symm
      exact ⟨by kernel_rfl, fun j t ht => stand_ins (l := [24, 3, 3, 3, 3]) (by kernel_rfl) (by rw [Tryd.params5] at ht; simpa using Array.mem_of_getElem? ht)⟩)
    (by kernel_rfl)
#print axioms two_holds
end Go.Proofs.YtepdkmdcainddaaDoor
