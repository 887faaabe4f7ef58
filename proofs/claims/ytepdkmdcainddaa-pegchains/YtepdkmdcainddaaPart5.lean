/- What is proved: the law PegChains returns true for every input. Conditions: none beyond the form's own.
   Texts: P18g, P18h, P18i, P18j, P18k, P18l, P18m, P18n, P18o, P18p.
-/
import Derived.Test.YtepdkmdcainddaaPart4
import Derived.Test.YtepdkmdcainddaaRows
import Derived.SizedLaws
import Derived.ChangeAt
-- lib2
namespace Go.Proofs.Ytepdkmdcainddaa
open Go Go.Itp
set_option linter.unusedSimpArgs false
set_option linter.unusedVariables false
set_option maxRecDepth 100000
set_option maxHeartbeats 1000000
attribute [local irreducible] Does

theorem same_p (w : World) (n : Nat) {u v : Value} {l m : List Int} {h : Heap} {nx p : Nat} (hu : Rd (oldOf w) h vI u l) (hv : Rd (oldOf w) h vI v m) (hl : l.length ≤ 1000000) (hm : m.length ≤ 1000000) :
    (EN w (n + 1)).pcall 11 [u, v] ⟨h, nx, p⟩ = some (.bool (decide (l = m)), []) := by
  refine pcall_eq rfl rfl (Nat.le_of_ble_eq_true rfl) ?_
  by_cases hlen : l.length = m.length
  · simp (disch := first | omega | assumption | (exact id (by with_unfolding_all rfl)) | ((refine all_cons _ _ (by first | assumption | exact id (by with_unfolding_all rfl)) ?_); (repeat' (first | exact List.all_nil | refine all_cons _ _ (by first | assumption | exact id (by with_unfolding_all rfl)) ?_)); done) |  exact callP_old _ _ _ _ _ | exact one_int _ _ | exact one_bool _ | exact one_string _ | exact one_slice _ _ _ | exact one_pointer _ | exact hget_push_one _ _ _ _ (by omega) | (simp only [List.length_map, List.length_set, List.length_replicate, List.length_cons, List.length_nil]; omega) | (rw [hget_push_lt _ _ _ _ (by omega)]; first | assumption | exact hget_push_one _ _ _ _ (by omega))) only [WW0, WW1, WW2, WW3, WW4, WW5, WW6, WW7, Option.map_some, args0, slotsL, opdsA, List.cons_append, List.nil_append, List.map_cons, List.map_nil, List.append_nil, Option.toList_some, Option.toList_none, Nat.reduceEqDiff, Nat.reduceLT, Nat.reduceAdd, Nat.reduceBEq, Int.reduceAdd, Int.reduceSub, Int.reduceLT, Int.reduceLE, Int.reduceEq, Int.reduceNeg, ↓reduceIte, if_true, if_false, Bool.false_eq_true, Bool.not_true, Bool.not_false, List.length_cons, List.length_nil, List.length_singleton, reduceCtorEq, Int.toNat_natCast, Nat.zero_add, Nat.add_zero, Int.add_sub_cancel, eq_self, List.drop_zero, List.drop_succ_cons, Option.some.injEq, Prod.mk.injEq, mkFnA, Bool.and_true, Bool.true_and, Bool.and_self, hu.len, hv.len]
    refine does_while (fun q fr t => ∃ k : Nat, q = l.length - k ∧ k ≤ l.length ∧ fr = [(0, u), (1, v), (5, .int .i64 k)] ∧ t = ⟨h, nx, nx⟩ ∧ ∀ j, j < k → l[j]! = m[j]!) (m := l.length) ?_ ?_ ?_
    · exact ⟨0, by omega, by omega, rfl, rfl, by omega⟩
    · simp (disch := first | omega | assumption | (exact id (by with_unfolding_all rfl)) | ((refine all_cons _ _ (by first | assumption | exact id (by with_unfolding_all rfl)) ?_); (repeat' (first | exact List.all_nil | refine all_cons _ _ (by first | assumption | exact id (by with_unfolding_all rfl)) ?_)); done) |  exact callP_old _ _ _ _ _ | exact one_int _ _ | exact one_bool _ | exact one_string _ | exact one_slice _ _ _ | exact one_pointer _ | exact hget_push_one _ _ _ _ (by omega) | (simp only [List.length_map, List.length_set, List.length_replicate, List.length_cons, List.length_nil]; omega) | (rw [hget_push_lt _ _ _ _ (by omega)]; first | assumption | exact hget_push_one _ _ _ _ (by omega))) only [WW0, WW1, WW2, WW3, WW4, WW5, WW6, WW7, Option.map_some, args0, slotsL, opdsA, List.cons_append, List.nil_append, List.map_cons, List.map_nil, List.append_nil, Option.toList_some, Option.toList_none, Nat.reduceEqDiff, Nat.reduceLT, Nat.reduceAdd, Nat.reduceBEq, Int.reduceAdd, Int.reduceSub, Int.reduceLT, Int.reduceLE, Int.reduceEq, Int.reduceNeg, ↓reduceIte, if_true, if_false, Bool.false_eq_true, Bool.not_true, Bool.not_false, List.length_cons, List.length_nil, List.length_singleton, reduceCtorEq, Int.toNat_natCast, Nat.zero_add, Nat.add_zero, Int.add_sub_cancel, eq_self, List.drop_zero, List.drop_succ_cons, Option.some.injEq, Prod.mk.injEq, mkFnA, Bool.and_true, Bool.true_and, Bool.and_self]
      unfold many; omega
    · rintro q fr t ⟨k, rfl, hk, rfl, rfl, hj⟩
      repeat' (first | (simp (disch := first | omega | assumption | (exact id (by with_unfolding_all rfl)) | ((refine all_cons _ _ (by first | assumption | exact id (by with_unfolding_all rfl)) ?_); (repeat' (first | exact List.all_nil | refine all_cons _ _ (by first | assumption | exact id (by with_unfolding_all rfl)) ?_)); done) |  exact callP_old _ _ _ _ _ | exact one_int _ _ | exact one_bool _ | exact one_string _ | exact one_slice _ _ _ | exact one_pointer _ | exact hget_push_one _ _ _ _ (by omega) | (simp only [List.length_map, List.length_set, List.length_replicate, List.length_cons, List.length_nil]; omega) | (rw [hget_push_lt _ _ _ _ (by omega)]; first | assumption | exact hget_push_one _ _ _ _ (by omega))) only [WW0, WW1, WW2, WW3, WW4, WW5, WW6, WW7, Option.map_some, args0, slotsL, opdsA, List.cons_append, List.nil_append, List.map_cons, List.map_nil, List.append_nil, Option.toList_some, Option.toList_none, Nat.reduceEqDiff, Nat.reduceLT, Nat.reduceAdd, Nat.reduceBEq, Int.reduceAdd, Int.reduceSub, Int.reduceLT, Int.reduceLE, Int.reduceEq, Int.reduceNeg, ↓reduceIte, if_true, if_false, Bool.false_eq_true, Bool.not_true, Bool.not_false, List.length_cons, List.length_nil, List.length_singleton, reduceCtorEq, Int.toNat_natCast, Nat.zero_add, Nat.add_zero, Int.add_sub_cancel, eq_self, List.drop_zero, List.drop_succ_cons, Option.some.injEq, Prod.mk.injEq, mkFnA, Bool.and_true, Bool.true_and, Bool.and_self, c11l0, hu.len, hu.idx, hu.load, hv.len, hv.idx, hv.load, vI]) | (refine does_goI_dec (fun _ => ?_) (fun _ => ?_)) | (refine does_goG_dec (fun _ => ?_) (fun _ => ?_)) | (refine does_goI (fun _ => ?_) (fun _ => ?_)) | (refine does_goG (fun _ => ?_) (fun _ => ?_)))
      · rename_i h1 h2
        exact (decide_no fun e => h2 (by rw [e])).symm
      · rename_i h1 h2
        refine ⟨_, ?_, k + 1, rfl, by omega, by simp, fun j hj' => ?_⟩
        · omega
        · rcases Nat.lt_succ_iff_lt_or_eq.1 hj' with h' | rfl
          · exact hj j h'
          · exact Decidable.not_not.1 h2
      · rename_i h1
        refine (decide_yes (List.ext_getElem hlen ?_)).symm
        intro j h2 h3
        have := hj j (by omega)
        rwa [getElem!_pos l j h2, getElem!_pos m j h3] at this
  · repeat' (first | (simp (disch := first | omega | assumption | (exact id (by with_unfolding_all rfl)) | ((refine all_cons _ _ (by first | assumption | exact id (by with_unfolding_all rfl)) ?_); (repeat' (first | exact List.all_nil | refine all_cons _ _ (by first | assumption | exact id (by with_unfolding_all rfl)) ?_)); done) |  exact callP_old _ _ _ _ _ | exact one_int _ _ | exact one_bool _ | exact one_string _ | exact one_slice _ _ _ | exact one_pointer _ | exact hget_push_one _ _ _ _ (by omega) | (simp only [List.length_map, List.length_set, List.length_replicate, List.length_cons, List.length_nil]; omega) | (rw [hget_push_lt _ _ _ _ (by omega)]; first | assumption | exact hget_push_one _ _ _ _ (by omega))) only [WW0, WW1, WW2, WW3, WW4, WW5, WW6, WW7, Option.map_some, args0, slotsL, opdsA, List.cons_append, List.nil_append, List.map_cons, List.map_nil, List.append_nil, Option.toList_some, Option.toList_none, Nat.reduceEqDiff, Nat.reduceLT, Nat.reduceAdd, Nat.reduceBEq, Int.reduceAdd, Int.reduceSub, Int.reduceLT, Int.reduceLE, Int.reduceEq, Int.reduceNeg, ↓reduceIte, if_true, if_false, Bool.false_eq_true, Bool.not_true, Bool.not_false, List.length_cons, List.length_nil, List.length_singleton, reduceCtorEq, Int.toNat_natCast, Nat.zero_add, Nat.add_zero, Int.add_sub_cancel, eq_self, List.drop_zero, List.drop_succ_cons, Option.some.injEq, Prod.mk.injEq, mkFnA, Bool.and_true, Bool.true_and, Bool.and_self, hu.len, hv.len]) | (refine does_goI_dec (fun _ => ?_) (fun _ => ?_)) | (refine does_goG_dec (fun _ => ?_) (fun _ => ?_)) | (refine does_goI (fun _ => ?_) (fun _ => ?_)) | (refine does_goG (fun _ => ?_) (fun _ => ?_)))
    exact (decide_no fun e => hlen (by rw [e])).symm
section
variable (w : World) (n : Nat) {h : Heap} {nx p : Nat}
/-- two grids that read the same -/
theorem same1_p {u v : Value} {a b : Int} {l : List Bool} (hu : Rd (oldOf w) h Value.bool u l) (hv : Rd (oldOf w) h Value.bool v l) (hl : l.length ≤ 1000000) (bu : bidN u ≤ nx) (bv : bidN v ≤ nx) :
    (EN w (n + 1)).pcall 10 [.agg [.int .i64 a, .int .i64 b, u].toArray, .agg [.int .i64 a, .int .i64 b, v].toArray] ⟨h, nx, p⟩ = some (.bool true, []) := by
  refine pcall_eq rfl rfl (Nat.le_of_ble_eq_true rfl) ?_
  obtain ⟨H, hH⟩ : ∃ H, H = hpush (hpush h nx [⟨[.int .i64 a, .int .i64 b, u], 1, false, 29⟩]) (nx + 1) [⟨[.int .i64 a, .int .i64 b, v], 1, false, 29⟩] := ⟨_, rfl⟩
  have hx : HX nx h H := by subst hH; exact ((HX.refl _ _).push _ (Nat.le_refl _)).push _ (by omega)
  have hu' := hu.hx hx bu
  have hv' := hv.hx hx bv
  have g1 : hget H nx = some ⟨[.int .i64 a, .int .i64 b, u], 1, false, 29⟩ := by subst hH; rw [hget_push_lt _ _ _ _ (by omega)]; exact hget_push_one _ _ _ _ rfl
  have g2 : hget H (nx + 1) = some ⟨[.int .i64 a, .int .i64 b, v], 1, false, 29⟩ := by subst hH; exact hget_push_one _ _ _ _ rfl
  repeat' (first | (simp (disch := first | omega | assumption | (exact id (by with_unfolding_all rfl)) | ((refine all_cons _ _ (by first | assumption | exact id (by with_unfolding_all rfl)) ?_); (repeat' (first | exact List.all_nil | refine all_cons _ _ (by first | assumption | exact id (by with_unfolding_all rfl)) ?_)); done) |  exact callP_old _ _ _ _ _ | exact one_int _ _ | exact one_bool _ | exact one_string _ | exact one_slice _ _ _ | exact one_pointer _ | exact hget_push_one _ _ _ _ (by omega) | (simp only [List.length_map, List.length_set, List.length_replicate, List.length_cons, List.length_nil]; omega) | (rw [hget_push_lt _ _ _ _ (by omega)]; first | assumption | exact hget_push_one _ _ _ _ (by omega))) only [WW0, WW1, WW2, WW3, WW4, WW5, WW6, WW7, Option.map_some, args0, slotsL, opdsA, List.cons_append, List.nil_append, List.map_cons, List.map_nil, List.append_nil, Option.toList_some, Option.toList_none, Nat.reduceEqDiff, Nat.reduceLT, Nat.reduceAdd, Nat.reduceBEq, Int.reduceAdd, Int.reduceSub, Int.reduceLT, Int.reduceLE, Int.reduceEq, Int.reduceNeg, ↓reduceIte, if_true, if_false, Bool.false_eq_true, Bool.not_true, Bool.not_false, List.length_cons, List.length_nil, List.length_singleton, reduceCtorEq, Int.toNat_natCast, Nat.zero_add, Nat.add_zero, Int.add_sub_cancel, eq_self, List.drop_zero, List.drop_succ_cons, Option.some.injEq, Prod.mk.injEq, mkFnA, Bool.and_true, Bool.true_and, Bool.and_self, ← hH, g1, g2, hu'.len, hv'.len]) | (refine does_goI_dec (fun _ => ?_) (fun _ => ?_)) | (refine does_goG_dec (fun _ => ?_) (fun _ => ?_)) | (refine does_goI (fun _ => ?_) (fun _ => ?_)) | (refine does_goG (fun _ => ?_) (fun _ => ?_)))
  refine does_while (fun m fr t => ∃ k : Nat, m = l.length - k ∧ k ≤ l.length ∧ fr = [(2, .pointer (some ⟨nx, 0, some 0⟩)), (3, .pointer (some ⟨nx + 1, 0, some 0⟩)), (5, .int .i64 k)] ∧ t = ⟨H, nx + 1 + 1, nx⟩) (m := l.length) ?_ ?_ ?_
  · exact ⟨0, by omega, by omega, rfl, rfl⟩
  · simp (disch := first | omega | assumption | (exact id (by with_unfolding_all rfl)) | ((refine all_cons _ _ (by first | assumption | exact id (by with_unfolding_all rfl)) ?_); (repeat' (first | exact List.all_nil | refine all_cons _ _ (by first | assumption | exact id (by with_unfolding_all rfl)) ?_)); done) |  exact callP_old _ _ _ _ _ | exact one_int _ _ | exact one_bool _ | exact one_string _ | exact one_slice _ _ _ | exact one_pointer _ | exact hget_push_one _ _ _ _ (by omega) | (simp only [List.length_map, List.length_set, List.length_replicate, List.length_cons, List.length_nil]; omega) | (rw [hget_push_lt _ _ _ _ (by omega)]; first | assumption | exact hget_push_one _ _ _ _ (by omega))) only [WW0, WW1, WW2, WW3, WW4, WW5, WW6, WW7, Option.map_some, args0, slotsL, opdsA, List.cons_append, List.nil_append, List.map_cons, List.map_nil, List.append_nil, Option.toList_some, Option.toList_none, Nat.reduceEqDiff, Nat.reduceLT, Nat.reduceAdd, Nat.reduceBEq, Int.reduceAdd, Int.reduceSub, Int.reduceLT, Int.reduceLE, Int.reduceEq, Int.reduceNeg, ↓reduceIte, if_true, if_false, Bool.false_eq_true, Bool.not_true, Bool.not_false, List.length_cons, List.length_nil, List.length_singleton, reduceCtorEq, Int.toNat_natCast, Nat.zero_add, Nat.add_zero, Int.add_sub_cancel, eq_self, List.drop_zero, List.drop_succ_cons, Option.some.injEq, Prod.mk.injEq, mkFnA, Bool.and_true, Bool.true_and, Bool.and_self]
    unfold many; omega
  · rintro m fr tt ⟨k, rfl, hk, rfl, rfl⟩
    by_cases hlt : k < l.length
    · repeat' (first | (simp (disch := first | omega | assumption | (exact id (by with_unfolding_all rfl)) | ((refine all_cons _ _ (by first | assumption | exact id (by with_unfolding_all rfl)) ?_); (repeat' (first | exact List.all_nil | refine all_cons _ _ (by first | assumption | exact id (by with_unfolding_all rfl)) ?_)); done) |  exact callP_old _ _ _ _ _ | exact one_int _ _ | exact one_bool _ | exact one_string _ | exact one_slice _ _ _ | exact one_pointer _ | exact hget_push_one _ _ _ _ (by omega) | (simp only [List.length_map, List.length_set, List.length_replicate, List.length_cons, List.length_nil]; omega) | (rw [hget_push_lt _ _ _ _ (by omega)]; first | assumption | exact hget_push_one _ _ _ _ (by omega))) only [WW0, WW1, WW2, WW3, WW4, WW5, WW6, WW7, Option.map_some, args0, slotsL, opdsA, List.cons_append, List.nil_append, List.map_cons, List.map_nil, List.append_nil, Option.toList_some, Option.toList_none, Nat.reduceEqDiff, Nat.reduceLT, Nat.reduceAdd, Nat.reduceBEq, Int.reduceAdd, Int.reduceSub, Int.reduceLT, Int.reduceLE, Int.reduceEq, Int.reduceNeg, ↓reduceIte, if_true, if_false, Bool.false_eq_true, Bool.not_true, Bool.not_false, List.length_cons, List.length_nil, List.length_singleton, reduceCtorEq, Int.toNat_natCast, Nat.zero_add, Nat.add_zero, Int.add_sub_cancel, eq_self, List.drop_zero, List.drop_succ_cons, Option.some.injEq, Prod.mk.injEq, mkFnA, Bool.and_true, Bool.true_and, Bool.and_self, c10l0, g1, g2, hu'.len, hu'.idx, hu'.load, hv'.idx, hv'.load, beq_self_eq_true]) | (refine does_goI_dec (fun _ => ?_) (fun _ => ?_)) | (refine does_goG_dec (fun _ => ?_) (fun _ => ?_)) | (refine does_goI (fun _ => ?_) (fun _ => ?_)) | (refine does_goG (fun _ => ?_) (fun _ => ?_)))
      refine ⟨_, ?_, k + 1, rfl, hlt, by simp⟩
      omega
    · have : k = l.length := by omega
      subst this
      repeat' (first | (simp (disch := first | omega | assumption | (exact id (by with_unfolding_all rfl)) | ((refine all_cons _ _ (by first | assumption | exact id (by with_unfolding_all rfl)) ?_); (repeat' (first | exact List.all_nil | refine all_cons _ _ (by first | assumption | exact id (by with_unfolding_all rfl)) ?_)); done) |  exact callP_old _ _ _ _ _ | exact one_int _ _ | exact one_bool _ | exact one_string _ | exact one_slice _ _ _ | exact one_pointer _ | exact hget_push_one _ _ _ _ (by omega) | (simp only [List.length_map, List.length_set, List.length_replicate, List.length_cons, List.length_nil]; omega) | (rw [hget_push_lt _ _ _ _ (by omega)]; first | assumption | exact hget_push_one _ _ _ _ (by omega))) only [WW0, WW1, WW2, WW3, WW4, WW5, WW6, WW7, Option.map_some, args0, slotsL, opdsA, List.cons_append, List.nil_append, List.map_cons, List.map_nil, List.append_nil, Option.toList_some, Option.toList_none, Nat.reduceEqDiff, Nat.reduceLT, Nat.reduceAdd, Nat.reduceBEq, Int.reduceAdd, Int.reduceSub, Int.reduceLT, Int.reduceLE, Int.reduceEq, Int.reduceNeg, ↓reduceIte, if_true, if_false, Bool.false_eq_true, Bool.not_true, Bool.not_false, List.length_cons, List.length_nil, List.length_singleton, reduceCtorEq, Int.toNat_natCast, Nat.zero_add, Nat.add_zero, Int.add_sub_cancel, eq_self, List.drop_zero, List.drop_succ_cons, Option.some.injEq, Prod.mk.injEq, mkFnA, Bool.and_true, Bool.true_and, Bool.and_self, c10l0, g1, hu'.len]) | (refine does_goI_dec (fun _ => ?_) (fun _ => ?_)) | (refine does_goG_dec (fun _ => ?_) (fun _ => ?_)) | (refine does_goI (fun _ => ?_) (fun _ => ?_)) | (refine does_goG (fun _ => ?_) (fun _ => ?_)))
/-- two chains that read the same -/
theorem same18_p {vC vD : Value} {rs ss : List Value} {V : List (List Bool)} (q : Int) (t : CB w h nx vC rs V) (u : CB w h nx vD ss V) :
    (EN w (n + 1)).pcall 16 [.agg [.int .i64 q, vC].toArray, .agg [.int .i64 q, vD].toArray] ⟨h, nx, p⟩ = some (.bool true, []) := by
  refine pcall_eq rfl rfl (Nat.le_of_ble_eq_true rfl) ?_
  obtain ⟨H, hH⟩ : ∃ H, H = hpush (hpush h nx [⟨[.int .i64 q, vC], 1, false, 24⟩]) (nx + 1) [⟨[.int .i64 q, vD], 1, false, 24⟩] := ⟨_, rfl⟩
  have hx : HX nx h H := by subst hH; exact ((HX.refl _ _).push _ (Nat.le_refl _)).push _ (by omega)
  have t' := t.hx hx (nx' := nx) (Nat.le_refl _)
  have u' := u.hx hx (nx' := nx) (Nat.le_refl _)
  have hl1 := t.len
  have hl2 := u.len
  have hlv := t.lv
  have g1 : hget H nx = some ⟨[.int .i64 q, vC], 1, false, 24⟩ := by subst hH; rw [hget_push_lt _ _ _ _ (by omega)]; exact hget_push_one _ _ _ _ rfl
  have g2 : hget H (nx + 1) = some ⟨[.int .i64 q, vD], 1, false, 24⟩ := by subst hH; exact hget_push_one _ _ _ _ rfl
  repeat' (first | (simp (disch := first | omega | assumption | (exact id (by with_unfolding_all rfl)) | ((refine all_cons _ _ (by first | assumption | exact id (by with_unfolding_all rfl)) ?_); (repeat' (first | exact List.all_nil | refine all_cons _ _ (by first | assumption | exact id (by with_unfolding_all rfl)) ?_)); done) |  exact callP_old _ _ _ _ _ | exact one_int _ _ | exact one_bool _ | exact one_string _ | exact one_slice _ _ _ | exact one_pointer _ | exact hget_push_one _ _ _ _ (by omega) | (simp only [List.length_map, List.length_set, List.length_replicate, List.length_cons, List.length_nil]; omega) | (rw [hget_push_lt _ _ _ _ (by omega)]; first | assumption | exact hget_push_one _ _ _ _ (by omega))) only [WW0, WW1, WW2, WW3, WW4, WW5, WW6, WW7, Option.map_some, args0, slotsL, opdsA, List.cons_append, List.nil_append, List.map_cons, List.map_nil, List.append_nil, Option.toList_some, Option.toList_none, Nat.reduceEqDiff, Nat.reduceLT, Nat.reduceAdd, Nat.reduceBEq, Int.reduceAdd, Int.reduceSub, Int.reduceLT, Int.reduceLE, Int.reduceEq, Int.reduceNeg, ↓reduceIte, if_true, if_false, Bool.false_eq_true, Bool.not_true, Bool.not_false, List.length_cons, List.length_nil, List.length_singleton, reduceCtorEq, Int.toNat_natCast, Nat.zero_add, Nat.add_zero, Int.add_sub_cancel, eq_self, List.drop_zero, List.drop_succ_cons, Option.some.injEq, Prod.mk.injEq, mkFnA, Bool.and_true, Bool.true_and, Bool.and_self, ← hH, g1, g2, t'.v.len, u'.v.len, hl1, hl2]) | (refine does_goI_dec (fun _ => ?_) (fun _ => ?_)) | (refine does_goG_dec (fun _ => ?_) (fun _ => ?_)) | (refine does_goI (fun _ => ?_) (fun _ => ?_)) | (refine does_goG (fun _ => ?_) (fun _ => ?_)))
  refine does_while (fun m fr t => ∃ k : Nat, m = V.length - k ∧ k ≤ V.length ∧ fr = [(2, .pointer (some ⟨nx, 0, some 0⟩)), (3, .pointer (some ⟨nx + 1, 0, some 0⟩)), (5, .int .i64 k)] ∧ t = ⟨H, nx + 1 + 1, nx⟩) (m := V.length) ?_ ?_ ?_
  · exact ⟨0, by omega, by omega, rfl, rfl⟩
  · simp (disch := first | omega | assumption | (exact id (by with_unfolding_all rfl)) | ((refine all_cons _ _ (by first | assumption | exact id (by with_unfolding_all rfl)) ?_); (repeat' (first | exact List.all_nil | refine all_cons _ _ (by first | assumption | exact id (by with_unfolding_all rfl)) ?_)); done) |  exact callP_old _ _ _ _ _ | exact one_int _ _ | exact one_bool _ | exact one_string _ | exact one_slice _ _ _ | exact one_pointer _ | exact hget_push_one _ _ _ _ (by omega) | (simp only [List.length_map, List.length_set, List.length_replicate, List.length_cons, List.length_nil]; omega) | (rw [hget_push_lt _ _ _ _ (by omega)]; first | assumption | exact hget_push_one _ _ _ _ (by omega))) only [WW0, WW1, WW2, WW3, WW4, WW5, WW6, WW7, Option.map_some, args0, slotsL, opdsA, List.cons_append, List.nil_append, List.map_cons, List.map_nil, List.append_nil, Option.toList_some, Option.toList_none, Nat.reduceEqDiff, Nat.reduceLT, Nat.reduceAdd, Nat.reduceBEq, Int.reduceAdd, Int.reduceSub, Int.reduceLT, Int.reduceLE, Int.reduceEq, Int.reduceNeg, ↓reduceIte, if_true, if_false, Bool.false_eq_true, Bool.not_true, Bool.not_false, List.length_cons, List.length_nil, List.length_singleton, reduceCtorEq, Int.toNat_natCast, Nat.zero_add, Nat.add_zero, Int.add_sub_cancel, eq_self, List.drop_zero, List.drop_succ_cons, Option.some.injEq, Prod.mk.injEq, mkFnA, Bool.and_true, Bool.true_and, Bool.and_self]
    unfold many; omega
  · rintro m fr tt ⟨k, rfl, hk, rfl, rfl⟩
    by_cases hlt : k < V.length
    · have r1 := t'.r k hlt
      have r2 := u'.r k hlt
      have hlr := t.lr k hlt
      repeat' (first | (simp (disch := first | omega | assumption | (exact id (by with_unfolding_all rfl)) | ((refine all_cons _ _ (by first | assumption | exact id (by with_unfolding_all rfl)) ?_); (repeat' (first | exact List.all_nil | refine all_cons _ _ (by first | assumption | exact id (by with_unfolding_all rfl)) ?_)); done) |  exact callP_old _ _ _ _ _ | exact one_int _ _ | exact one_bool _ | exact one_string _ | exact one_slice _ _ _ | exact one_pointer _ | exact hget_push_one _ _ _ _ (by omega) | (simp only [List.length_map, List.length_set, List.length_replicate, List.length_cons, List.length_nil]; omega) | (rw [hget_push_lt _ _ _ _ (by omega)]; first | assumption | exact hget_push_one _ _ _ _ (by omega))) only [WW0, WW1, WW2, WW3, WW4, WW5, WW6, WW7, Option.map_some, args0, slotsL, opdsA, List.cons_append, List.nil_append, List.map_cons, List.map_nil, List.append_nil, Option.toList_some, Option.toList_none, Nat.reduceEqDiff, Nat.reduceLT, Nat.reduceAdd, Nat.reduceBEq, Int.reduceAdd, Int.reduceSub, Int.reduceLT, Int.reduceLE, Int.reduceEq, Int.reduceNeg, ↓reduceIte, if_true, if_false, Bool.false_eq_true, Bool.not_true, Bool.not_false, List.length_cons, List.length_nil, List.length_singleton, reduceCtorEq, Int.toNat_natCast, Nat.zero_add, Nat.add_zero, Int.add_sub_cancel, eq_self, List.drop_zero, List.drop_succ_cons, Option.some.injEq, Prod.mk.injEq, mkFnA, Bool.and_true, Bool.true_and, Bool.and_self, c16l1, g1, g2, t'.v.len, t'.v.idx, t'.v.load, u'.v.idx, u'.v.load, r1.len, r2.len, hl1, hl2]) | (refine does_goI_dec (fun _ => ?_) (fun _ => ?_)) | (refine does_goG_dec (fun _ => ?_) (fun _ => ?_)) | (refine does_goI (fun _ => ?_) (fun _ => ?_)) | (refine does_goG (fun _ => ?_) (fun _ => ?_)))
      refine does_while (fun m fr t => ∃ j : Nat, m = V[k]!.length - j ∧ j ≤ V[k]!.length ∧ fr = [(2, .pointer (some ⟨nx, 0, some 0⟩)), (3, .pointer (some ⟨nx + 1, 0, some 0⟩)), (5, .int .i64 k), (6, .int .i64 j)] ∧ t = ⟨H, nx + 1 + 1, nx⟩) (m := V[k]!.length) ?_ ?_ ?_
      · exact ⟨0, by omega, by omega, rfl, rfl⟩
      · simp (disch := first | omega | assumption | (exact id (by with_unfolding_all rfl)) | ((refine all_cons _ _ (by first | assumption | exact id (by with_unfolding_all rfl)) ?_); (repeat' (first | exact List.all_nil | refine all_cons _ _ (by first | assumption | exact id (by with_unfolding_all rfl)) ?_)); done) |  exact callP_old _ _ _ _ _ | exact one_int _ _ | exact one_bool _ | exact one_string _ | exact one_slice _ _ _ | exact one_pointer _ | exact hget_push_one _ _ _ _ (by omega) | (simp only [List.length_map, List.length_set, List.length_replicate, List.length_cons, List.length_nil]; omega) | (rw [hget_push_lt _ _ _ _ (by omega)]; first | assumption | exact hget_push_one _ _ _ _ (by omega))) only [WW0, WW1, WW2, WW3, WW4, WW5, WW6, WW7, Option.map_some, args0, slotsL, opdsA, List.cons_append, List.nil_append, List.map_cons, List.map_nil, List.append_nil, Option.toList_some, Option.toList_none, Nat.reduceEqDiff, Nat.reduceLT, Nat.reduceAdd, Nat.reduceBEq, Int.reduceAdd, Int.reduceSub, Int.reduceLT, Int.reduceLE, Int.reduceEq, Int.reduceNeg, ↓reduceIte, if_true, if_false, Bool.false_eq_true, Bool.not_true, Bool.not_false, List.length_cons, List.length_nil, List.length_singleton, reduceCtorEq, Int.toNat_natCast, Nat.zero_add, Nat.add_zero, Int.add_sub_cancel, eq_self, List.drop_zero, List.drop_succ_cons, Option.some.injEq, Prod.mk.injEq, mkFnA, Bool.and_true, Bool.true_and, Bool.and_self]
        unfold many; omega
      · rintro m fr tt ⟨j, rfl, hj, rfl, rfl⟩
        by_cases hlj : j < V[k]!.length
        · repeat' (first | (simp (disch := first | omega | assumption | (exact id (by with_unfolding_all rfl)) | ((refine all_cons _ _ (by first | assumption | exact id (by with_unfolding_all rfl)) ?_); (repeat' (first | exact List.all_nil | refine all_cons _ _ (by first | assumption | exact id (by with_unfolding_all rfl)) ?_)); done) |  exact callP_old _ _ _ _ _ | exact one_int _ _ | exact one_bool _ | exact one_string _ | exact one_slice _ _ _ | exact one_pointer _ | exact hget_push_one _ _ _ _ (by omega) | (simp only [List.length_map, List.length_set, List.length_replicate, List.length_cons, List.length_nil]; omega) | (rw [hget_push_lt _ _ _ _ (by omega)]; first | assumption | exact hget_push_one _ _ _ _ (by omega))) only [WW0, WW1, WW2, WW3, WW4, WW5, WW6, WW7, Option.map_some, args0, slotsL, opdsA, List.cons_append, List.nil_append, List.map_cons, List.map_nil, List.append_nil, Option.toList_some, Option.toList_none, Nat.reduceEqDiff, Nat.reduceLT, Nat.reduceAdd, Nat.reduceBEq, Int.reduceAdd, Int.reduceSub, Int.reduceLT, Int.reduceLE, Int.reduceEq, Int.reduceNeg, ↓reduceIte, if_true, if_false, Bool.false_eq_true, Bool.not_true, Bool.not_false, List.length_cons, List.length_nil, List.length_singleton, reduceCtorEq, Int.toNat_natCast, Nat.zero_add, Nat.add_zero, Int.add_sub_cancel, eq_self, List.drop_zero, List.drop_succ_cons, Option.some.injEq, Prod.mk.injEq, mkFnA, Bool.and_true, Bool.true_and, Bool.and_self, c16l0, g1, g2, t'.v.idx, t'.v.load, u'.v.idx, u'.v.load, r1.len, r2.len, r1.idx, r1.load, r2.idx, r2.load, beq_self_eq_true]) | (refine does_goI_dec (fun _ => ?_) (fun _ => ?_)) | (refine does_goG_dec (fun _ => ?_) (fun _ => ?_)) | (refine does_goI (fun _ => ?_) (fun _ => ?_)) | (refine does_goG (fun _ => ?_) (fun _ => ?_)))
          refine ⟨_, ?_, j + 1, rfl, hlj, by simp⟩
          omega
        · have : j = V[k]!.length := by omega
          subst this
          repeat' (first | (simp (disch := first | omega | assumption | (exact id (by with_unfolding_all rfl)) | ((refine all_cons _ _ (by first | assumption | exact id (by with_unfolding_all rfl)) ?_); (repeat' (first | exact List.all_nil | refine all_cons _ _ (by first | assumption | exact id (by with_unfolding_all rfl)) ?_)); done) |  exact callP_old _ _ _ _ _ | exact one_int _ _ | exact one_bool _ | exact one_string _ | exact one_slice _ _ _ | exact one_pointer _ | exact hget_push_one _ _ _ _ (by omega) | (simp only [List.length_map, List.length_set, List.length_replicate, List.length_cons, List.length_nil]; omega) | (rw [hget_push_lt _ _ _ _ (by omega)]; first | assumption | exact hget_push_one _ _ _ _ (by omega))) only [WW0, WW1, WW2, WW3, WW4, WW5, WW6, WW7, Option.map_some, args0, slotsL, opdsA, List.cons_append, List.nil_append, List.map_cons, List.map_nil, List.append_nil, Option.toList_some, Option.toList_none, Nat.reduceEqDiff, Nat.reduceLT, Nat.reduceAdd, Nat.reduceBEq, Int.reduceAdd, Int.reduceSub, Int.reduceLT, Int.reduceLE, Int.reduceEq, Int.reduceNeg, ↓reduceIte, if_true, if_false, Bool.false_eq_true, Bool.not_true, Bool.not_false, List.length_cons, List.length_nil, List.length_singleton, reduceCtorEq, Int.toNat_natCast, Nat.zero_add, Nat.add_zero, Int.add_sub_cancel, eq_self, List.drop_zero, List.drop_succ_cons, Option.some.injEq, Prod.mk.injEq, mkFnA, Bool.and_true, Bool.true_and, Bool.and_self, c16l0, g1, g2, t'.v.idx, t'.v.load, r1.len]) | (refine does_goI_dec (fun _ => ?_) (fun _ => ?_)) | (refine does_goG_dec (fun _ => ?_) (fun _ => ?_)) | (refine does_goI (fun _ => ?_) (fun _ => ?_)) | (refine does_goG (fun _ => ?_) (fun _ => ?_)))
          refine ⟨_, ?_, k + 1, rfl, hlt, by simp⟩
          omega
    · have : k = V.length := by omega
      subst this
      repeat' (first | (simp (disch := first | omega | assumption | (exact id (by with_unfolding_all rfl)) | ((refine all_cons _ _ (by first | assumption | exact id (by with_unfolding_all rfl)) ?_); (repeat' (first | exact List.all_nil | refine all_cons _ _ (by first | assumption | exact id (by with_unfolding_all rfl)) ?_)); done) |  exact callP_old _ _ _ _ _ | exact one_int _ _ | exact one_bool _ | exact one_string _ | exact one_slice _ _ _ | exact one_pointer _ | exact hget_push_one _ _ _ _ (by omega) | (simp only [List.length_map, List.length_set, List.length_replicate, List.length_cons, List.length_nil]; omega) | (rw [hget_push_lt _ _ _ _ (by omega)]; first | assumption | exact hget_push_one _ _ _ _ (by omega))) only [WW0, WW1, WW2, WW3, WW4, WW5, WW6, WW7, Option.map_some, args0, slotsL, opdsA, List.cons_append, List.nil_append, List.map_cons, List.map_nil, List.append_nil, Option.toList_some, Option.toList_none, Nat.reduceEqDiff, Nat.reduceLT, Nat.reduceAdd, Nat.reduceBEq, Int.reduceAdd, Int.reduceSub, Int.reduceLT, Int.reduceLE, Int.reduceEq, Int.reduceNeg, ↓reduceIte, if_true, if_false, Bool.false_eq_true, Bool.not_true, Bool.not_false, List.length_cons, List.length_nil, List.length_singleton, reduceCtorEq, Int.toNat_natCast, Nat.zero_add, Nat.add_zero, Int.add_sub_cancel, eq_self, List.drop_zero, List.drop_succ_cons, Option.some.injEq, Prod.mk.injEq, mkFnA, Bool.and_true, Bool.true_and, Bool.and_self, c16l1, g1, t'.v.len, hl1]) | (refine does_goI_dec (fun _ => ?_) (fun _ => ?_)) | (refine does_goG_dec (fun _ => ?_) (fun _ => ?_)) | (refine does_goI (fun _ => ?_) (fun _ => ?_)) | (refine does_goG (fun _ => ?_) (fun _ => ?_)))
end
end Go.Proofs.Ytepdkmdcainddaa
-- lib2
namespace Go.Proofs.Ytepdkmdcainddaa
open Go Go.Itp
set_option linter.unusedSimpArgs false
set_option linter.unusedVariables false
set_option maxRecDepth 100000
set_option maxHeartbeats 1000000
attribute [local irreducible] Does

/-- a chain whose cards lie in rows of its own -/
structure NC (w : World) (h : Heap) (n0 nx : Nat) (vC : Value) (rs : List Value) (V : List (List Bool)) : Prop where
  cb : CB w h nx vC rs V
  row : ∀ k, k < V.length → ∃ (i c : Nat) (g : Bool), rs[k]! = .slice (some ⟨i, 0, some 0⟩) V[k]!.length c ∧ n0 ≤ i ∧ hget h i = some ⟨V[k]!.map Value.bool, 1, g, 4⟩ ∧ bidN vC ≠ i + 1
  sep : ∀ k k', k < V.length → k' < V.length → k ≠ k' → bidN rs[k]! ≠ bidN rs[k']!
  fv : bidN vC = 0 ∨ n0 < bidN vC
theorem CB.set {w : World} {h : Heap} {nx i : Nat} {vC : Value} {rs : List Value} {V : List (List Bool)} (t : CB w h nx vC rs V) (b : Blk) (hv : bidN vC ≠ i + 1) (hr : ∀ k, k < V.length → bidN rs[k]! ≠ i + 1) : CB w (hset h i b) nx vC rs V :=
  ⟨t.v.set _ hv, t.len, fun k hk => (t.r k hk).set _ (hr k hk), t.bv, t.br, t.lv, t.lr⟩
theorem NC.bidr {w : World} {h : Heap} {n0 nx : Nat} {vC : Value} {rs : List Value} {V : List (List Bool)} (t : NC w h n0 nx vC rs V) {k : Nat} (hk : k < V.length) : n0 < bidN rs[k]! := by
  obtain ⟨i, c, g, e1, e2, _⟩ := t.row k hk
  rw [e1]; simp only [bidN, bidA]; omega
theorem NC.hx {w : World} {h h' : Heap} {n0 nx nx' : Nat} {vC : Value} {rs : List Value} {V : List (List Bool)} (t : NC w h n0 nx vC rs V) (hx : HX nx h h') (hn : nx ≤ nx') : NC w h' n0 nx' vC rs V :=
  ⟨t.cb.hx hx hn, fun k hk => by
    obtain ⟨i, c, g, e1, e2, e3, e4⟩ := t.row k hk
    have hb := t.cb.br k hk
    rw [e1] at hb
    simp only [bidN, bidA] at hb
    exact ⟨i, c, g, e1, e2, by rw [hx i (by omega)]; exact e3, e4⟩, t.sep, t.fv⟩
section
variable (w : World) (n : Nat) {vC : Value} {rs : List Value} {V : List (List Bool)} {h : Heap} {nx p : Nat}
theorem twin_w (t : CB w h nx vC rs V) (q : Int) (hp : p ≤ nx) :
    ∃ (v : Value) (ss : List Value) (h' : Heap) (n' : Nat), (EN w (n + 1)).wcall 5 [.agg [.int .i64 q, vC].toArray] ⟨h, nx, p⟩ = some (.agg [.int .i64 q, v].toArray, ⟨h', n', p⟩) ∧
      HX nx h h' ∧ nx ≤ n' ∧ NC w h' nx n' v ss V := by
  have key : ∃ v s', (EN w (n + 1)).wcall 5 [.agg [.int .i64 q, vC].toArray] ⟨h, nx, p⟩ = some (v, s') ∧ (∃ (u : Value) (ss : List Value) (h' : Heap) (n' : Nat), v = .agg [.int .i64 q, u].toArray ∧ s' = ⟨h', n', p⟩ ∧
      HX nx h h' ∧ nx ≤ n' ∧ NC w h' nx n' u ss V) := by
    refine wcall_ex rfl (Nat.le_of_ble_eq_true rfl) ?_
    have hlen := t.len
    have hlv := t.lv
    repeat' (first | (simp (disch := first | omega | assumption | (exact id (by with_unfolding_all rfl)) | ((refine all_cons _ _ (by first | assumption | exact id (by with_unfolding_all rfl)) ?_); (repeat' (first | exact List.all_nil | refine all_cons _ _ (by first | assumption | exact id (by with_unfolding_all rfl)) ?_)); done) |  exact callP_old _ _ _ _ _ | exact one_int _ _ | exact one_bool _ | exact one_string _ | exact one_slice _ _ _ | exact one_pointer _ | exact hget_push_one _ _ _ _ (by omega) | (simp only [List.length_map, List.length_set, List.length_replicate, List.length_cons, List.length_nil]; omega) | (rw [hget_push_lt _ _ _ _ (by omega)]; first | assumption | exact hget_push_one _ _ _ _ (by omega))) only [WW0, WW1, WW2, WW3, WW4, WW5, WW6, WW7, Option.map_some, args0, slotsL, opdsA, List.cons_append, List.nil_append, List.map_cons, List.map_nil, List.append_nil, Option.toList_some, Option.toList_none, Nat.reduceEqDiff, Nat.reduceLT, Nat.reduceAdd, Nat.reduceBEq, Int.reduceAdd, Int.reduceSub, Int.reduceLT, Int.reduceLE, Int.reduceEq, Int.reduceNeg, ↓reduceIte, if_true, if_false, Bool.false_eq_true, Bool.not_true, Bool.not_false, List.length_cons, List.length_nil, List.length_singleton, reduceCtorEq, Int.toNat_natCast, Nat.zero_add, Nat.add_zero, Int.add_sub_cancel, eq_self, List.drop_zero, List.drop_succ_cons, Option.some.injEq, Prod.mk.injEq, mkFnA, Bool.and_true, Bool.true_and, Bool.and_self, zchain]) | (refine does_goI_dec (fun _ => ?_) (fun _ => ?_)) | (refine does_goG_dec (fun _ => ?_) (fun _ => ?_)) | (refine does_goI (fun _ => ?_) (fun _ => ?_)) | (refine does_goG (fun _ => ?_) (fun _ => ?_)))
    obtain ⟨H0, hH0⟩ : ∃ H0, H0 = hset (hpush (hpush (hpush h nx [⟨[.int .i64 q, vC], 1, false, 24⟩]) (nx + 1) [⟨[.int .i64 0, .slice none 0 0], 1, false, 24⟩]) (nx + 1 + 1) [⟨[.int .i64 0, .slice none 0 0], 1, false, 24⟩]) (nx + 1 + 1) ⟨[.int .i64 q, .slice none 0 0], 1, false, 24⟩ := ⟨_, rfl⟩
    have hx0 : HX nx h H0 := by subst hH0; exact ((((HX.refl _ _).push _ (Nat.le_refl _)).push _ (by omega)).push _ (by omega)).set _ (by omega)
    have g1 : hget H0 nx = some ⟨[.int .i64 q, vC], 1, false, 24⟩ := by
      subst hH0; rw [hget_set_ne _ _ _ _ (by omega), hget_push_lt _ _ _ _ (by omega), hget_push_lt _ _ _ _ (by omega)]; exact hget_push_one _ _ _ _ rfl
    have g2 : hget H0 (nx + 1) = some ⟨[.int .i64 0, .slice none 0 0], 1, false, 24⟩ := by
      subst hH0; rw [hget_set_ne _ _ _ _ (by omega), hget_push_lt _ _ _ _ (by omega)]; exact hget_push_one _ _ _ _ rfl
    have g3 : hget H0 (nx + 1 + 1) = some ⟨[.int .i64 q, .slice none 0 0], 1, false, 24⟩ := by
      subst hH0; rw [hget_set_self, hget_push_one _ _ _ _ rfl]; rfl
    rw [← hH0]
    refine does_while (fun m fr tt => ∃ (k : Nat) (u : Value) (ss : List Value) (h1 : Heap) (n1 : Nat), m = V.length - k ∧ k ≤ V.length ∧ fr = [(1, .pointer (some ⟨nx, 0, some 0⟩)), (2, .pointer (some ⟨nx + 1, 0, some 0⟩)), (3, .pointer (some ⟨nx + 1 + 1, 0, some 0⟩)), (4, .int .i64 k)] ∧ tt = ⟨h1, n1, p⟩ ∧
      HX (nx + 2) H0 h1 ∧ nx + 3 ≤ n1 ∧ hget h1 (nx + 1 + 1) = some ⟨[.int .i64 q, u], 1, false, 24⟩ ∧ Own (nx + 3) ⟨h1, n1, p⟩ 27 1 u k ss ∧ ss.length = k ∧
      (∀ j, j < k → ∃ (i c : Nat) (g : Bool), ss[j]! = .slice (some ⟨i, 0, some 0⟩) V[j]!.length c ∧ nx + 3 ≤ i ∧ i < n1 ∧ V[j]!.length ≤ knownCap c ∧ hget h1 i = some ⟨V[j]!.map Value.bool, 1, g, 4⟩ ∧ bidN u ≠ i + 1) ∧
      ∀ j j', j < k → j' < k → j ≠ j' → bidN ss[j]! ≠ bidN ss[j']!) (m := V.length) ?_ ?_ ?_
    · exact ⟨0, _, _, _, _, (Nat.sub_zero _).symm, Nat.zero_le _, rfl, rfl, HX.refl _ _, Nat.le_refl _, g3, Own.nil, rfl, by omega, by omega⟩
    · simp (disch := first | omega | assumption | (exact id (by with_unfolding_all rfl)) | ((refine all_cons _ _ (by first | assumption | exact id (by with_unfolding_all rfl)) ?_); (repeat' (first | exact List.all_nil | refine all_cons _ _ (by first | assumption | exact id (by with_unfolding_all rfl)) ?_)); done) |  exact callP_old _ _ _ _ _ | exact one_int _ _ | exact one_bool _ | exact one_string _ | exact one_slice _ _ _ | exact one_pointer _ | exact hget_push_one _ _ _ _ (by omega) | (simp only [List.length_map, List.length_set, List.length_replicate, List.length_cons, List.length_nil]; omega) | (rw [hget_push_lt _ _ _ _ (by omega)]; first | assumption | exact hget_push_one _ _ _ _ (by omega))) only [WW0, WW1, WW2, WW3, WW4, WW5, WW6, WW7, Option.map_some, args0, slotsL, opdsA, List.cons_append, List.nil_append, List.map_cons, List.map_nil, List.append_nil, Option.toList_some, Option.toList_none, Nat.reduceEqDiff, Nat.reduceLT, Nat.reduceAdd, Nat.reduceBEq, Int.reduceAdd, Int.reduceSub, Int.reduceLT, Int.reduceLE, Int.reduceEq, Int.reduceNeg, ↓reduceIte, if_true, if_false, Bool.false_eq_true, Bool.not_true, Bool.not_false, List.length_cons, List.length_nil, List.length_singleton, reduceCtorEq, Int.toNat_natCast, Nat.zero_add, Nat.add_zero, Int.add_sub_cancel, eq_self, List.drop_zero, List.drop_succ_cons, Option.some.injEq, Prod.mk.injEq, mkFnA, Bool.and_true, Bool.true_and, Bool.and_self]
      unfold many; omega
    · rintro m fr tt ⟨k, u, ss, h1, n1, rfl, hk, rfl, rfl, hx1, hn1, hg3, ho, hsl, hrow, hsep⟩
      have ht1 := t.hx (hx0.trans hx1 (by omega)) (nx' := n1) (by omega)
      have hg1 : hget h1 nx = some ⟨[.int .i64 q, vC], 1, false, 24⟩ := by rw [hx1 _ (by omega)]; exact g1
      have hg2 : hget h1 (nx + 1) = some ⟨[.int .i64 0, .slice none 0 0], 1, false, 24⟩ := by rw [hx1 _ (by omega)]; exact g2
      have hb2 := ho.bid2
      have hbd := ho.bid
      simp only at hbd
      by_cases hlt : k < V.length
      · have hr := ht1.r k hlt
        have hlr := t.lr k hlt
        have hbr := ht1.br k hlt
        obtain ⟨B, hB⟩ : ∃ B, B = newB 4 1 V[k]!.length (V[k]!.map Value.bool) := ⟨_, rfl⟩
        have hbl : B.length ≤ 1 := by rw [hB]; exact newB_le ..
        have hcat := fun q' => app_catP (q := q') (hr.push [⟨[], 1, false, 4⟩] hbr) (hget_push_one _ _ _ _ rfl) (E := EN w n) (t := 4) (b := 1) (callP_old ..) (by omega) (by omega)
        rw [← hB] at hcat
        have hone := one_catV n1 V[k]!.length
        have ho' : Own (nx + 3) ⟨hpush (hpush h1 n1 [⟨[], 1, false, 4⟩]) (n1 + 1) B, n1 + 1 + B.length, p⟩ 27 1 u k ss := (ho.push [⟨[], 1, false, 4⟩] rfl).push B rfl
        have happ := ho'.appRow (E := EN w n) (b := 24) (c := catV n1 V[k]!.length) (t' := 27) (g := false) hone (by omega) (by omega)
        repeat' (first | (simp (disch := first | omega | assumption | (exact id (by with_unfolding_all rfl)) | ((refine all_cons _ _ (by first | assumption | exact id (by with_unfolding_all rfl)) ?_); (repeat' (first | exact List.all_nil | refine all_cons _ _ (by first | assumption | exact id (by with_unfolding_all rfl)) ?_)); done) |  exact callP_old _ _ _ _ _ | exact one_int _ _ | exact one_bool _ | exact one_string _ | exact one_slice _ _ _ | exact one_pointer _ | exact hget_push_one _ _ _ _ (by omega) | (simp only [List.length_map, List.length_set, List.length_replicate, List.length_cons, List.length_nil]; omega) | (rw [hget_push_lt _ _ _ _ (by omega)]; first | assumption | exact hget_push_one _ _ _ _ (by omega))) only [WW0, WW1, WW2, WW3, WW4, WW5, WW6, WW7, Option.map_some, args0, slotsL, opdsA, List.cons_append, List.nil_append, List.map_cons, List.map_nil, List.append_nil, Option.toList_some, Option.toList_none, Nat.reduceEqDiff, Nat.reduceLT, Nat.reduceAdd, Nat.reduceBEq, Int.reduceAdd, Int.reduceSub, Int.reduceLT, Int.reduceLE, Int.reduceEq, Int.reduceNeg, ↓reduceIte, if_true, if_false, Bool.false_eq_true, Bool.not_true, Bool.not_false, List.length_cons, List.length_nil, List.length_singleton, reduceCtorEq, Int.toNat_natCast, Nat.zero_add, Nat.add_zero, Int.add_sub_cancel, eq_self, List.drop_zero, List.drop_succ_cons, Option.some.injEq, Prod.mk.injEq, mkFnA, Bool.and_true, Bool.true_and, Bool.and_self, c5l0, hg1, hg3, ht1.v.len, hlen, ht1.v.idx, ht1.v.load, hcat, happ, hget_delO]) | (refine does_goI_dec (fun _ => ?_) (fun _ => ?_)) | (refine does_goG_dec (fun _ => ?_) (fun _ => ?_)) | (refine does_goI (fun _ => ?_) (fun _ => ?_)) | (refine does_goG (fun _ => ?_) (fun _ => ?_)))
        have hcr := cat_row Value.bool h1 n1 4 V[k]!
        rw [← hB] at hcr
        have hcb := catV_bid n1 V[k]!.length
        refine ⟨_, ?_, k + 1, .slice (some ⟨n1 + 1 + B.length + 1, 0, some 0⟩) (k + 1) (big + (k + 1)), ss ++ [catV n1 V[k]!.length], _, _, rfl, hlt, by simp, rfl, (((((hx1.push _ (by omega)).push _ (by omega)).push _ (by omega)).delO (by omega)).push _ (by omega)).set _ (by omega), by omega, ?_, ?_, by simp [hsl], ?_, ?_⟩
        · omega
        · rw [hget_set_self, hget_push_lt _ _ _ _ (by omega), hget_delO _ _ _ (by omega), hget_push_lt _ _ _ _ (by omega), hget_push_lt _ _ _ _ (by omega), hget_push_lt _ _ _ _ (by omega), hg3]; rfl
        · exact (Own.grown (by simp [hsl]) (by omega) (by omega)).to (Nat.le_refl _) rfl fun i hi => by
            simp only [bidN, bidA] at hi
            exact hget_set_ne _ _ _ _ (by omega)
        · intro j hj
          by_cases e : j = k
          · subst e
            obtain ⟨i, c, g, r1, r2, r3, r4, r5⟩ := hcr
            refine ⟨i, c, g, by rw [get_app_r _ _ _ (by omega) (by simp; omega), hsl, Nat.sub_self]; exact r1, by omega, by omega, r4, ?_, by simp only [bidN, bidA]; omega⟩
            rw [hget_set_ne _ _ _ _ (by omega), hget_push_lt _ _ _ _ (by omega), hget_delO _ _ _ (by omega), hget_push_lt _ _ _ _ (by omega)]
            exact r5
          · obtain ⟨i, c, g, r1, r2, r3, r4, r5, r6⟩ := hrow j (by omega)
            refine ⟨i, c, g, by rw [get_app_l _ _ _ (by omega)]; exact r1, r2, by omega, r4, ?_, by simp only [bidN, bidA]; omega⟩
            rw [hget_set_ne _ _ _ _ (by omega), hget_push_lt _ _ _ _ (by omega), hget_delO _ _ _ r6, hget_push_lt _ _ _ _ (by omega), hget_push_lt _ _ _ _ (by omega), hget_push_lt _ _ _ _ (by omega)]
            exact r5
        · have hlast : (ss ++ [catV n1 V[k]!.length])[k]! = catV n1 V[k]!.length := by rw [get_app_r _ _ _ (by omega) (by simp; omega), hsl, Nat.sub_self]; rfl
          have hold : ∀ j, j < k → (ss ++ [catV n1 V[k]!.length])[j]! = ss[j]! ∧ bidN ss[j]! ≤ n1 := fun j hj => by
            obtain ⟨i, c, g, r1, r2, r3, _⟩ := hrow j hj
            exact ⟨get_app_l _ _ _ (by omega), by rw [r1]; simp only [bidN, bidA]; omega⟩
          intro j j' hj hj' hne
          by_cases e : j = k
          · subst e
            obtain ⟨e1, e2⟩ := hold j' (by omega)
            rw [hlast, e1]; omega
          · obtain ⟨e1, e2⟩ := hold j (by omega)
            by_cases e' : j' = k
            · subst e'
              rw [hlast, e1]; omega
            · rw [e1, (hold j' (by omega)).1]; exact hsep j j' (by omega) (by omega) hne
      · have : k = V.length := by omega
        subst this
        have hone := ho.one
        repeat' (first | (simp (disch := first | omega | assumption | (exact id (by with_unfolding_all rfl)) | ((refine all_cons _ _ (by first | assumption | exact id (by with_unfolding_all rfl)) ?_); (repeat' (first | exact List.all_nil | refine all_cons _ _ (by first | assumption | exact id (by with_unfolding_all rfl)) ?_)); done) |  exact callP_old _ _ _ _ _ | exact one_int _ _ | exact one_bool _ | exact one_string _ | exact one_slice _ _ _ | exact one_pointer _ | exact hget_push_one _ _ _ _ (by omega) | (simp only [List.length_map, List.length_set, List.length_replicate, List.length_cons, List.length_nil]; omega) | (rw [hget_push_lt _ _ _ _ (by omega)]; first | assumption | exact hget_push_one _ _ _ _ (by omega))) only [WW0, WW1, WW2, WW3, WW4, WW5, WW6, WW7, Option.map_some, args0, slotsL, opdsA, List.cons_append, List.nil_append, List.map_cons, List.map_nil, List.append_nil, Option.toList_some, Option.toList_none, Nat.reduceEqDiff, Nat.reduceLT, Nat.reduceAdd, Nat.reduceBEq, Int.reduceAdd, Int.reduceSub, Int.reduceLT, Int.reduceLE, Int.reduceEq, Int.reduceNeg, ↓reduceIte, if_true, if_false, Bool.false_eq_true, Bool.not_true, Bool.not_false, List.length_cons, List.length_nil, List.length_singleton, reduceCtorEq, Int.toNat_natCast, Nat.zero_add, Nat.add_zero, Int.add_sub_cancel, eq_self, List.drop_zero, List.drop_succ_cons, Option.some.injEq, Prod.mk.injEq, mkFnA, Bool.and_true, Bool.true_and, Bool.and_self, c5l0, hg1, hg2, hg3, ht1.v.len, hlen]) | (refine does_goI_dec (fun _ => ?_) (fun _ => ?_)) | (refine does_goG_dec (fun _ => ?_) (fun _ => ?_)) | (refine does_goI (fun _ => ?_) (fun _ => ?_)) | (refine does_goG (fun _ => ?_) (fun _ => ?_)))
        have hget' : ∀ i, nx + 3 ≤ i → hget (hset h1 (nx + 1) ⟨[.int .i64 q, u], 1, false, 24⟩) i = hget h1 i := fun i hi => hget_set_ne _ _ _ _ (by omega)
        refine ⟨u, ss, _, _, by simp [tupleOf], rfl, (hx0.trans hx1 (by omega)).set _ (by omega), by omega, ⟨⟨?_, hsl, ?_, by omega, ?_, t.lv, t.lr⟩, ?_, hsep, by omega⟩⟩
        · exact (ho.rdV (old := oldOf w) hsl.symm).set _ (by omega)
        · intro j hj
          obtain ⟨i, c, g, r1, r2, r3, r4, r5, r6⟩ := hrow j hj
          rw [r1]
          exact Rd.newb (by rw [hget' i r2]; exact r5) rfl rfl r4
        · intro j hj
          obtain ⟨i, c, g, r1, r2, r3, r4, r5, r6⟩ := hrow j hj
          rw [r1]; simp only [bidN, bidA]; omega
        · intro j hj
          obtain ⟨i, c, g, r1, r2, r3, r4, r5, r6⟩ := hrow j hj
          exact ⟨i, c, g, r1, by omega, by rw [hget' i r2]; exact r5, r6⟩
  obtain ⟨v, s', hc, u, ss, h', n', rfl, rfl, hq⟩ := key
  exact ⟨u, ss, h', n', hc, hq⟩
end
end Go.Proofs.Ytepdkmdcainddaa
-- lib2
namespace Go.Proofs.Ytepdkmdcainddaa
open Go Go.Itp
set_option linter.unusedSimpArgs false
set_option linter.unusedVariables false
set_option maxRecDepth 100000
set_option maxHeartbeats 1000000
attribute [local irreducible] Does

theorem zpoint : expand [(2, .int .i64 0)] = [.int .i64 0, .int .i64 0] := rfl
theorem goWL_el {E : Env} {K : List KF} {fr fr0 : Fr} {p n : Nat} {conc : List Nat} {d : Option Nat} {l : List WOp} {rs : List WRec} {h : Heap} {tail : List AOper} {ks : List Nat} (g : Option Nat) (i o q len c k : Nat) :
    goWL (some (elP (.slice (some ⟨i, o, some q⟩) len c) k)) E g fr0 p conc d l rs fr h n tail ks K = goWB (retP (loadA E h g (elP (.slice (some ⟨i, o, some q⟩) len c) k))) (.only [i]) E fr0 p conc d l rs fr h n tail ks K := goWL_own ..
theorem ld_of {old : Nat → Nat → Option Value} {h : Heap} {i len c : Nat} {v : Value} (e : loadO old h (elP (.slice (some ⟨i, 0, some 0⟩) len c) 0) = some v) : loadB (hget h i) (Int.toNat 0) = some v := by
  rw [show elP (.slice (some ⟨i, 0, some 0⟩) len c) 0 = .pointer (some ⟨i, 0, some 0⟩) from rfl, loadO_new] at e
  exact e
def flip (V : List (List Bool)) (y x : Nat) : List (List Bool) := V.set y (V[y]!.set x (!V[y]![x]!))
def mendE (q : Int) (V : List (List Bool)) : Int := if wrongE q V = 0 then (if wrongA q V = [] ∧ wrongB q V = [] then 0 else if (wrongA q V).length = 1 ∧ (wrongB q V).length = 1 then 0 else 30) else wrongE q V
def mendS (q : Int) (V : List (List Bool)) : Int × List (List Bool) × Int × Int × Bool :=
  if wrongE q V = 0 then (if wrongA q V = [] ∧ wrongB q V = [] then (q, V, 0, 0, false)
    else if (wrongA q V).length = 1 ∧ (wrongB q V).length = 1 then (q, flip V (wrongA q V)[0]!.toNat (wrongB q V)[0]!.toNat, (wrongB q V)[0]!, (wrongA q V)[0]!, true) else (0, [], 0, 0, false)) else (0, [], 0, 0, false)
structure MR (w : World) (h : Heap) (nx : Nat) (q : Int) (V : List (List Bool)) (v : Value) : Prop where
  is : ∃ (q' : Int) (u : Value) (ss : List Value) (V' : List (List Bool)) (x y : Int) (c : Bool), v = .tuple [.agg [.int .i64 q', u].toArray, .agg [.int .i64 x, .int .i64 y].toArray, .bool c, .int .i64 (mendE q V)].toArray ∧ CB w h nx u ss V' ∧ mendS q V = (q', V', x, y, c)
theorem CB.zero (w : World) (h : Heap) (nx : Nat) : CB w h nx (.slice none 0 0) [] [] := ⟨Rd.nil, rfl, fun k hk => by simp at hk, by simp [bidN, bidA], fun k hk => by simp at hk, by simp, fun k hk => by simp at hk⟩
theorem NC.flip {w : World} {h : Heap} {n0 nx : Nat} {u : Value} {ss : List Value} {V : List (List Bool)} (t : NC w h n0 nx u ss V) {y x i c : Nat} {g : Bool} {b : Bool} (hy : y < V.length) (hi : ss[y]! = .slice (some ⟨i, 0, some 0⟩) V[y]!.length c) (hu : bidN u ≠ i + 1) :
    CB w (hset h i ⟨(V[y]!.set x b).map Value.bool, 1, g, 4⟩) nx u ss (V.set y (V[y]!.set x b)) := by
  obtain ⟨i', c', g', r1, r2, r3, r4⟩ := t.row y hy
  rw [hi] at r1
  cases r1
  have hset : ∀ k, k < V.length → (V.set y (V[y]!.set x b))[k]! = if k = y then V[y]!.set x b else V[k]! := by
    intro k hk
    by_cases hky : k = y
    · subst hky; rw [get_set_eq _ _ _ hk, if_pos rfl]
    · rw [get_set_ne _ _ _ _ (fun e => hky e.symm), if_neg hky]
  have hkc : V[y]!.length ≤ knownCap c := by
    have := (t.cb.r y hy)
    rw [hi] at this
    rcases this.is with ⟨a, c'', h1, h2, _⟩ | ⟨_, k, b', m, h1⟩
    · cases h1; exact h2
    · cases h1
  refine ⟨t.cb.v.set _ hu, by rw [List.length_set]; exact t.cb.len, fun k hk => ?_, t.cb.bv, fun k hk => ?_, by rw [List.length_set]; exact t.cb.lv, fun k hk => ?_⟩
  · rw [List.length_set] at hk
    rw [hset k hk]
    by_cases hky : k = y
    · subst hky
      rw [if_pos rfl, hi]
      exact Rd.newb (by rw [hget_set_self, r3]; rfl) rfl (by simp) (by simpa using hkc)
    · rw [if_neg hky]
      refine (t.cb.r k hk).set _ ?_
      have := t.sep k y hk hy hky
      rw [hi] at this
      simpa [bidN, bidA] using this
  · rw [List.length_set] at hk
    exact t.cb.br k hk
  · rw [List.length_set] at hk
    rw [hset k hk]
    split
    · rw [List.length_set]; exact t.cb.lr y hy
    · exact t.cb.lr k hk
section
variable (w : World) (n : Nat) {vC : Value} {rs : List Value} {V : List (List Bool)} {h : Heap} {nx p : Nat}
theorem rmend_w (t : CB w h nx vC rs V) (q : Int) (hq : -9223372036854775808 ≤ q ∧ q ≤ 9223372036854775807) (hp : p ≤ nx) :
    ∃ (v : Value) (h' : Heap) (n' : Nat), (EN w (n + 6)).wcall 13 [.agg [.int .i64 q, vC].toArray] ⟨h, nx, p⟩ = some (v, ⟨h', n', p⟩) ∧
      HX nx h h' ∧ nx ≤ n' ∧ MR w h' n' q V v := by
  have key : ∃ v s', (EN w (n + 6)).wcall 13 [.agg [.int .i64 q, vC].toArray] ⟨h, nx, p⟩ = some (v, s') ∧ (∃ (h' : Heap) (n' : Nat), s' = ⟨h', n', p⟩ ∧
      HX nx h h' ∧ nx ≤ n' ∧ MR w h' n' q V v) := by
    refine wcall_ex rfl (Nat.le_of_ble_eq_true rfl) ?_
    obtain ⟨H0, hH0⟩ : ∃ H0, H0 = hpush (hpush (hpush h nx [⟨[.int .i64 q, vC], 1, false, 24⟩]) (nx + 1) [⟨[.int .i64 0, .slice none 0 0], 1, false, 24⟩]) (nx + 1 + 1) [⟨(List.replicate 2 (0 : Int)).map vI, 1, false, 43⟩] := ⟨_, rfl⟩
    have hx0 : HX nx h H0 := by subst hH0; exact (((HX.refl _ _).push _ (Nat.le_refl _)).push _ (by omega)).push _ (by omega)
    have t' := t.hx hx0 (nx' := nx + 1 + 1 + 1) (by omega)
    have g1 : hget H0 nx = some ⟨[.int .i64 q, vC], 1, false, 24⟩ := by subst hH0; rw [hget_push_lt _ _ _ _ (by omega), hget_push_lt _ _ _ _ (by omega)]; exact hget_push_one _ _ _ _ rfl
    have g2 : hget H0 (nx + 1) = some ⟨[.int .i64 0, .slice none 0 0], 1, false, 24⟩ := by subst hH0; rw [hget_push_lt _ _ _ _ (by omega)]; exact hget_push_one _ _ _ _ rfl
    have g3 : hget H0 (nx + 1 + 1) = some ⟨[.int .i64 0, .int .i64 0], 1, false, 43⟩ := by subst hH0; exact hget_push_one _ _ _ _ rfl
    obtain ⟨a, b, h1, n1, hc, hx1, hn1, hrA, hrB, hbA, hbB, hfA, hfB⟩ := rwrong_w w n t' q hq (p := p) (by omega)
    have himp := fun xs s => imp (n + 4) 9 xs s w rfl
    have himpt := fun xs s => imp (n + 4) 5 xs s w rfl
    have e1 : hget h1 nx = some ⟨[.int .i64 q, vC], 1, false, 24⟩ := by rw [hx1 _ (by omega)]; exact g1
    have e2 : hget h1 (nx + 1) = some ⟨[.int .i64 0, .slice none 0 0], 1, false, 24⟩ := by rw [hx1 _ (by omega)]; exact g2
    have e3 : hget h1 (nx + 1 + 1) = some ⟨[.int .i64 0, .int .i64 0], 1, false, 43⟩ := by rw [hx1 _ (by omega)]; exact g3
    have ht1 := t'.hx hx1 hn1
    have hx01 : HX nx h h1 := hx0.trans hx1 (by omega)
    cases hv : validS q V
    · have he : ¬ wrongE q V = 0 := by simp [wrongE, hv]
      repeat' (first | (simp (disch := first | omega | assumption | (exact id (by with_unfolding_all rfl)) | ((refine all_cons _ _ (by first | assumption | exact id (by with_unfolding_all rfl)) ?_); (repeat' (first | exact List.all_nil | refine all_cons _ _ (by first | assumption | exact id (by with_unfolding_all rfl)) ?_)); done) |  exact callP_old _ _ _ _ _ | exact one_int _ _ | exact one_bool _ | exact one_string _ | exact one_slice _ _ _ | exact one_pointer _ | exact hget_push_one _ _ _ _ (by omega) | (simp only [List.length_map, List.length_set, List.length_replicate, List.length_cons, List.length_nil]; omega) | (rw [hget_push_lt _ _ _ _ (by omega)]; first | assumption | exact hget_push_one _ _ _ _ (by omega))) only [WW0, WW1, WW2, WW3, WW4, WW5, WW6, WW7, Option.map_some, args0, slotsL, opdsA, List.cons_append, List.nil_append, List.map_cons, List.map_nil, List.append_nil, Option.toList_some, Option.toList_none, Nat.reduceEqDiff, Nat.reduceLT, Nat.reduceAdd, Nat.reduceBEq, Int.reduceAdd, Int.reduceSub, Int.reduceLT, Int.reduceLE, Int.reduceEq, Int.reduceNeg, ↓reduceIte, if_true, if_false, Bool.false_eq_true, Bool.not_true, Bool.not_false, List.length_cons, List.length_nil, List.length_singleton, reduceCtorEq, Int.toNat_natCast, Nat.zero_add, Nat.add_zero, Int.add_sub_cancel, eq_self, List.drop_zero, List.drop_succ_cons, Option.some.injEq, Prod.mk.injEq, mkFnA, Bool.and_true, Bool.true_and, Bool.and_self, zchain, ← hH0, g1, himp, hc, e1, e2, e3]) | (refine does_goI_dec (fun _ => ?_) (fun _ => ?_)) | (refine does_goG_dec (fun _ => ?_) (fun _ => ?_)) | (refine does_goI (fun _ => ?_) (fun _ => ?_)) | (refine does_goG (fun _ => ?_) (fun _ => ?_)))
      refine ⟨_, _, rfl, (hx01.set _ (by omega)).set _ (by omega), by omega, ⟨0, .slice none 0 0, [], [], 0, 0, false, by simp [mendE, he, tupleOf], CB.zero .., by simp [mendS, he]⟩⟩
    have he : wrongE q V = 0 := by simp [wrongE, hv]
    obtain ⟨v1, v2, v3, v4, v5⟩ := valid_out hv
    obtain ⟨u, ss, h2, n2, hc2, hx2, hn2, hN⟩ := twin_w w (n + 4) ht1 q (p := p) (by omega)
    have e5 : hget h2 (nx + 1) = some ⟨[.int .i64 0, .slice none 0 0], 1, false, 24⟩ := by rw [hx2 _ (by omega)]; exact e2
    have e6 : hget h2 (nx + 1 + 1) = some ⟨[.int .i64 0, .int .i64 0], 1, false, 43⟩ := by rw [hx2 _ (by omega)]; exact e3
    have e4 : hget h2 nx = some ⟨[.int .i64 q, vC], 1, false, 24⟩ := by rw [hx2 _ (by omega)]; exact e1
    have hx02 : HX nx h h2 := hx01.trans hx2 (by omega)
    have hone : oneCell u = true := hN.cb.v.one
    by_cases hz : (wrongA q V).length = 0 ∧ (wrongB q V).length = 0
    · obtain ⟨hz1, hz2⟩ := hz
      have hA0 := List.length_eq_zero_iff.1 hz1
      have hB0 := List.length_eq_zero_iff.1 hz2
      repeat' (first | (simp (disch := first | omega | assumption | (exact id (by with_unfolding_all rfl)) | ((refine all_cons _ _ (by first | assumption | exact id (by with_unfolding_all rfl)) ?_); (repeat' (first | exact List.all_nil | refine all_cons _ _ (by first | assumption | exact id (by with_unfolding_all rfl)) ?_)); done) |  exact callP_old _ _ _ _ _ | exact one_int _ _ | exact one_bool _ | exact one_string _ | exact one_slice _ _ _ | exact one_pointer _ | exact hget_push_one _ _ _ _ (by omega) | (simp only [List.length_map, List.length_set, List.length_replicate, List.length_cons, List.length_nil]; omega) | (rw [hget_push_lt _ _ _ _ (by omega)]; first | assumption | exact hget_push_one _ _ _ _ (by omega))) only [WW0, WW1, WW2, WW3, WW4, WW5, WW6, WW7, Option.map_some, args0, slotsL, opdsA, List.cons_append, List.nil_append, List.map_cons, List.map_nil, List.append_nil, Option.toList_some, Option.toList_none, Nat.reduceEqDiff, Nat.reduceLT, Nat.reduceAdd, Nat.reduceBEq, Int.reduceAdd, Int.reduceSub, Int.reduceLT, Int.reduceLE, Int.reduceEq, Int.reduceNeg, ↓reduceIte, if_true, if_false, Bool.false_eq_true, Bool.not_true, Bool.not_false, List.length_cons, List.length_nil, List.length_singleton, reduceCtorEq, Int.toNat_natCast, Nat.zero_add, Nat.add_zero, Int.add_sub_cancel, eq_self, List.drop_zero, List.drop_succ_cons, Option.some.injEq, Prod.mk.injEq, mkFnA, Bool.and_true, Bool.true_and, Bool.and_self, zchain, ← hH0, g1, himp, hc, e1, e2, e3, hrA.len, hrB.len, himpt, hc2, e5, e6]) | (refine does_goI_dec (fun _ => ?_) (fun _ => ?_)) | (refine does_goG_dec (fun _ => ?_) (fun _ => ?_)) | (refine does_goI (fun _ => ?_) (fun _ => ?_)) | (refine does_goG (fun _ => ?_) (fun _ => ?_)))
      refine ⟨_, _, rfl, (hx02.set _ (by omega)).set _ (by omega), by omega, ⟨q, u, ss, V, 0, 0, false, by simp [mendE, he, hA0, hB0, tupleOf], ?_, by simp [mendS, he, hA0, hB0]⟩⟩
      have hfv := hN.fv
      have hfr := fun k hk => hN.bidr (k := k) hk
      exact (hN.cb.set _ (by omega) (fun k hk => by have := hfr k hk; omega)).set _ (by omega) (fun k hk => by have := hfr k hk; omega)
    by_cases hw : (wrongA q V).length = 1 ∧ (wrongB q V).length = 1
    · obtain ⟨hw1, hw2⟩ := hw
      obtain ⟨ya, hya⟩ := List.length_eq_one_iff.1 hw1
      obtain ⟨xb, hxb⟩ := List.length_eq_one_iff.1 hw2
      have hym : 0 ≤ ya ∧ ya < V.length := sel_mem (cardP V) V.length ya (by have := hya; simp only [wrongA, hv, if_true] at this; rw [this]; simp)
      have hxm : 0 ≤ xb ∧ xb < (q + 1).toNat := sel_mem (placeP V) (q + 1).toNat xb (by have := hxb; simp only [wrongB, hv, if_true] at this; rw [this]; simp)
      obtain ⟨y, rfl⟩ : ∃ y : Nat, ya = (y : Int) := ⟨ya.toNat, by omega⟩
      obtain ⟨x, rfl⟩ : ∃ x : Nat, xb = (x : Int) := ⟨xb.toNat, by omega⟩
      have hy : y < V.length := by omega
      have hx : x < V[y]!.length := by have := v5 y hy; omega
      obtain ⟨i, c, g, hi, hni, hgi, hui⟩ := hN.row y hy
      have hbi := hN.cb.br y hy
      rw [hi] at hbi
      simp only [bidN, bidA] at hbi
      obtain ⟨H5, hH5⟩ : ∃ H5, H5 = hset (hpush h2 n2 [⟨[.int .i64 0, .slice none 0 0], 1, false, 24⟩]) n2 ⟨[.int .i64 q, u], 1, false, 24⟩ := ⟨_, rfl⟩
      have hx5 : HX n2 h2 H5 := by subst hH5; exact ((HX.refl _ _).push _ (Nat.le_refl _)).set _ (by omega)
      have k1 : hget H5 nx = some ⟨[.int .i64 q, vC], 1, false, 24⟩ := by rw [hx5 _ (by omega)]; exact e4
      have k2 : hget H5 (nx + 1) = some ⟨[.int .i64 0, .slice none 0 0], 1, false, 24⟩ := by rw [hx5 _ (by omega)]; exact e5
      have k3 : hget H5 (nx + 1 + 1) = some ⟨[.int .i64 0, .int .i64 0], 1, false, 43⟩ := by rw [hx5 _ (by omega)]; exact e6
      have k4 : hget H5 n2 = some ⟨[.int .i64 q, u], 1, false, 24⟩ := by subst hH5; rw [hget_set_self, hget_push_one _ _ _ _ rfl]; rfl
      have k5 : hget H5 i = some ⟨V[y]!.map Value.bool, 1, g, 4⟩ := by rw [hx5 _ (by omega)]; exact hgi
      have hN5 := hN.hx hx5 (nx' := n2 + 1) (by omega)
      have l1 := hN5.cb.len
      have l2 := ht1.len
      have t5 : CB w H5 (n2 + 1) vC rs V := (ht1.hx hx2 hn2).hx hx5 (by omega)
      obtain ⟨ia, ca, rfl, hia⟩ := hfA (by rw [hya]; simp)
      obtain ⟨ib, cb, rfl, hib⟩ := hfB (by rw [hxb]; simp)
      simp only [bidN, bidA] at hbA hbB
      have rA5 := (hrA.hx hx2 (by simp only [bidN, bidA]; omega)).hx hx5 (by simp only [bidN, bidA]; omega)
      have rB5 := (hrB.hx hx2 (by simp only [bidN, bidA]; omega)).hx hx5 (by simp only [bidN, bidA]; omega)
      repeat' (first | (simp (disch := first | omega | assumption | (exact id (by with_unfolding_all rfl)) | ((refine all_cons _ _ (by first | assumption | exact id (by with_unfolding_all rfl)) ?_); (repeat' (first | exact List.all_nil | refine all_cons _ _ (by first | assumption | exact id (by with_unfolding_all rfl)) ?_)); done) |  exact callP_old _ _ _ _ _ | exact one_int _ _ | exact one_bool _ | exact one_string _ | exact one_slice _ _ _ | exact one_pointer _ | exact hget_push_one _ _ _ _ (by omega) | (simp only [List.length_map, List.length_set, List.length_replicate, List.length_cons, List.length_nil]; omega) | (rw [hget_push_lt _ _ _ _ (by omega)]; first | assumption | exact hget_push_one _ _ _ _ (by omega))) only [WW0, WW1, WW2, WW3, WW4, WW5, WW6, WW7, Option.map_some, args0, slotsL, opdsA, List.cons_append, List.nil_append, List.map_cons, List.map_nil, List.append_nil, Option.toList_some, Option.toList_none, Nat.reduceEqDiff, Nat.reduceLT, Nat.reduceAdd, Nat.reduceBEq, Int.reduceAdd, Int.reduceSub, Int.reduceLT, Int.reduceLE, Int.reduceEq, Int.reduceNeg, ↓reduceIte, if_true, if_false, Bool.false_eq_true, Bool.not_true, Bool.not_false, List.length_cons, List.length_nil, List.length_singleton, reduceCtorEq, Int.toNat_natCast, Nat.zero_add, Nat.add_zero, Int.add_sub_cancel, eq_self, List.drop_zero, List.drop_succ_cons, Option.some.injEq, Prod.mk.injEq, mkFnA, Bool.and_true, Bool.true_and, Bool.and_self, zchain, ← hH0, g1, himp, hc, e1, e2, e3, hrA.len, hrB.len, himpt, hc2, e5, e6]) | (refine does_goI_dec (fun _ => ?_) (fun _ => ?_)) | (refine does_goG_dec (fun _ => ?_) (fun _ => ?_)) | (refine does_goI (fun _ => ?_) (fun _ => ?_)) | (refine does_goG (fun _ => ?_) (fun _ => ?_)))
      have l2A : loadB (hget h2 ia) (Int.toNat 0) = some (.int .i64 y) := by have := ld_of ((hrA.hx hx2 (by simp only [bidN, bidA]; omega)).load 0 (by rw [hya]; simp)); rw [hya] at this; exact this
      have l2B : loadB (hget h2 ib) (Int.toNat 0) = some (.int .i64 x) := by have := ld_of ((hrB.hx hx2 (by simp only [bidN, bidA]; omega)).load 0 (by rw [hxb]; simp)); rw [hxb] at this; exact this
      have l5A : loadB (hget H5 ia) (Int.toNat 0) = some (.int .i64 y) := by have := ld_of (rA5.load 0 (by rw [hya]; simp)); rw [hya] at this; exact this
      have l5B : loadB (hget H5 ib) (Int.toNat 0) = some (.int .i64 x) := by have := ld_of (rB5.load 0 (by rw [hxb]; simp)); rw [hxb] at this; exact this
      have d1 : ¬ nx + 1 = ia := by omega
      have d2 : ¬ nx + 1 = ib := by omega
      have ka : (wrongA q V)[Int.toNat 0]! = (y : Int) := by rw [hya]; rfl
      have kb : (wrongB q V)[Int.toNat 0]! = (x : Int) := by rw [hxb]; rfl
      obtain ⟨H6, hH6⟩ : ∃ H6, H6 = hset H5 i ⟨(V[y]!.set x (!V[y]![x]!)).map Value.bool, 1, g, 4⟩ := ⟨_, rfl⟩
      have rA6 := rA5.set (i := i) ⟨(V[y]!.set x (!V[y]![x]!)).map Value.bool, 1, g, 4⟩ (by simp only [bidN, bidA]; omega)
      have rB6 := rB5.set (i := i) ⟨(V[y]!.set x (!V[y]![x]!)).map Value.bool, 1, g, 4⟩ (by simp only [bidN, bidA]; omega)
      rw [← hH6] at rA6 rB6
      have j4 : hget H6 n2 = some ⟨[.int .i64 q, u], 1, false, 24⟩ := by subst hH6; rw [hget_set_ne _ _ _ _ (by omega)]; exact k4
      have j2 : hget H6 (nx + 1) = some ⟨[.int .i64 0, .slice none 0 0], 1, false, 24⟩ := by subst hH6; rw [hget_set_ne _ _ _ _ (by omega)]; exact k2
      have j3 : hget H6 (nx + 1 + 1) = some ⟨[.int .i64 0, .int .i64 0], 1, false, 43⟩ := by subst hH6; rw [hget_set_ne _ _ _ _ (by omega)]; exact k3
      have l6A : loadB (hget H6 ia) (Int.toNat 0) = some (.int .i64 y) := by have := ld_of (rA6.load 0 (by rw [hya]; simp)); rw [hya] at this; exact this
      have l6B : loadB (hget H6 ib) (Int.toNat 0) = some (.int .i64 x) := by have := ld_of (rB6.load 0 (by rw [hxb]; simp)); rw [hxb] at this; exact this
      all_goals try rw [← hH5]
      all_goals try repeat' (first | (simp (disch := first | omega | assumption | (exact id (by with_unfolding_all rfl)) | ((refine all_cons _ _ (by first | assumption | exact id (by with_unfolding_all rfl)) ?_); (repeat' (first | exact List.all_nil | refine all_cons _ _ (by first | assumption | exact id (by with_unfolding_all rfl)) ?_)); done) |  exact callP_old _ _ _ _ _ | exact one_int _ _ | exact one_bool _ | exact one_string _ | exact one_slice _ _ _ | exact one_pointer _ | exact hget_push_one _ _ _ _ (by omega) | (simp only [List.length_map, List.length_set, List.length_replicate, List.length_cons, List.length_nil]; omega) | (rw [hget_push_lt _ _ _ _ (by omega)]; first | assumption | exact hget_push_one _ _ _ _ (by omega))) only [WW0, WW1, WW2, WW3, WW4, WW5, WW6, WW7, Option.map_some, args0, slotsL, opdsA, List.cons_append, List.nil_append, List.map_cons, List.map_nil, List.append_nil, Option.toList_some, Option.toList_none, Nat.reduceEqDiff, Nat.reduceLT, Nat.reduceAdd, Nat.reduceBEq, Int.reduceAdd, Int.reduceSub, Int.reduceLT, Int.reduceLE, Int.reduceEq, Int.reduceNeg, ↓reduceIte, if_true, if_false, Bool.false_eq_true, Bool.not_true, Bool.not_false, List.length_cons, List.length_nil, List.length_singleton, reduceCtorEq, Int.toNat_natCast, Nat.zero_add, Nat.add_zero, Int.add_sub_cancel, eq_self, List.drop_zero, List.drop_succ_cons, Option.some.injEq, Prod.mk.injEq, mkFnA, Bool.and_true, Bool.true_and, Bool.and_self, vI, ka, kb, l2A, l2B, l5A, l5B, l6A, l6B, d1, d2, hN5.cb.len, t5.len, t5.v.idx, t5.v.load, (t5.r y hy).idx, (t5.r y hy).load, k1, k2, k3, k4, k5, rA5.idx, rA5.load, rB5.idx, rB5.load, hN5.cb.v.idx, hN5.cb.v.load, hi, ← hH6, j2, j3, j4, goWL_el, rA6.idx, rA6.load, rB6.idx, rB6.load]) | (refine does_goI_dec (fun _ => ?_) (fun _ => ?_)) | (refine does_goG_dec (fun _ => ?_) (fun _ => ?_)) | (refine does_goI (fun _ => ?_) (fun _ => ?_)) | (refine does_goG (fun _ => ?_) (fun _ => ?_)))
      have hfv := hN.fv
      have hfr := fun k hk => hN.bidr (k := k) hk
      have hx6 : HX nx h H6 := by subst hH6; exact (hx02.trans hx5 (by omega)).set _ (by omega)
      have hcb := hN5.flip (x := x) (g := g) (b := !V[y]![x]!) hy hi hui
      rw [← hH6] at hcb
      refine ⟨_, _, rfl, (hx6.set _ (by omega)).set _ (by omega), by omega, ⟨q, u, ss, flip V y x, x, y, true, by simp [mendE, he, hya, hxb], ?_, by simp [mendS, he, hya, hxb]⟩⟩
      have hlf : (flip V y x).length = V.length := by simp [flip]
      exact (CB.set hcb _ (by omega) (fun k hk => by have := hfr k (by rwa [List.length_set] at hk); omega)).set _ (by omega) (fun k hk => by have := hfr k (by rwa [List.length_set] at hk); omega)
    · have hw' : ¬ (wrongA q V).length = 1 ∨ ¬ (wrongB q V).length = 1 := by omega
      have h1 : (30 : Int) = mendE q V := by
        simp only [mendE, he, if_true]
        rw [if_neg (fun e => hz ⟨by rw [e.1]; rfl, by rw [e.2]; rfl⟩), if_neg hw]
      have h2 : mendS q V = (0, [], 0, 0, false) := by
        simp only [mendS, he, if_true]
        rw [if_neg (fun e => hz ⟨by rw [e.1]; rfl, by rw [e.2]; rfl⟩), if_neg hw]
      repeat' (first | (simp (disch := first | omega | assumption | (exact id (by with_unfolding_all rfl)) | ((refine all_cons _ _ (by first | assumption | exact id (by with_unfolding_all rfl)) ?_); (repeat' (first | exact List.all_nil | refine all_cons _ _ (by first | assumption | exact id (by with_unfolding_all rfl)) ?_)); done) |  exact callP_old _ _ _ _ _ | exact one_int _ _ | exact one_bool _ | exact one_string _ | exact one_slice _ _ _ | exact one_pointer _ | exact hget_push_one _ _ _ _ (by omega) | (simp only [List.length_map, List.length_set, List.length_replicate, List.length_cons, List.length_nil]; omega) | (rw [hget_push_lt _ _ _ _ (by omega)]; first | assumption | exact hget_push_one _ _ _ _ (by omega))) only [WW0, WW1, WW2, WW3, WW4, WW5, WW6, WW7, Option.map_some, args0, slotsL, opdsA, List.cons_append, List.nil_append, List.map_cons, List.map_nil, List.append_nil, Option.toList_some, Option.toList_none, Nat.reduceEqDiff, Nat.reduceLT, Nat.reduceAdd, Nat.reduceBEq, Int.reduceAdd, Int.reduceSub, Int.reduceLT, Int.reduceLE, Int.reduceEq, Int.reduceNeg, ↓reduceIte, if_true, if_false, Bool.false_eq_true, Bool.not_true, Bool.not_false, List.length_cons, List.length_nil, List.length_singleton, reduceCtorEq, Int.toNat_natCast, Nat.zero_add, Nat.add_zero, Int.add_sub_cancel, eq_self, List.drop_zero, List.drop_succ_cons, Option.some.injEq, Prod.mk.injEq, mkFnA, Bool.and_true, Bool.true_and, Bool.and_self, zchain, ← hH0, g1, himp, hc, e1, e2, e3, hrA.len, hrB.len, himpt, hc2, e5, e6]) | (refine does_goI_dec (fun _ => ?_) (fun _ => ?_)) | (refine does_goG_dec (fun _ => ?_) (fun _ => ?_)) | (refine does_goI (fun _ => ?_) (fun _ => ?_)) | (refine does_goG (fun _ => ?_) (fun _ => ?_)))
      all_goals refine ⟨_, _, rfl, (hx01.set _ (by omega)).set _ (by omega), by omega, ⟨0, .slice none 0 0, [], [], 0, 0, false, by rw [← h1], CB.zero .., h2⟩⟩
  obtain ⟨v, s', hc, h', n', rfl, hq⟩ := key
  exact ⟨v, h', n', hc, hq⟩
end
end Go.Proofs.Ytepdkmdcainddaa
-- lib2
namespace Go.Proofs.Ytepdkmdcainddaa
open Go Go.Itp
set_option linter.unusedSimpArgs false
set_option linter.unusedVariables false
set_option maxRecDepth 100000
set_option maxHeartbeats 1000000
attribute [local irreducible] Does

/-- a whole row copied into a block of the same length -/
theorem copy_row {E : Env} {old : Nat → Nat → Option Value} {h : Heap} {nx p i c m : Nat} {cs : List Value} {g : Bool} {t : TypeId} {α : Type} {f : α → Value} {x : Value} {l : List α} (he : E.old = old) (hr : Rd old h f x l) (hg : hget h i = some ⟨cs, 1, g, t⟩) (hc : cs.length = l.length) (hp : p ≤ i) (hf : ∀ x, oneCell (f x) = true) (hm : m = l.length) :
    copyA E ⟨h, nx, p⟩ 1 (.slice (some ⟨i, 0, some 0⟩) m c) x = some (.int .i64 l.length, ⟨hset h i ⟨l.map f, 1, g, t⟩, nx, p⟩) := by
  subst hm
  have e1 : srcCells E h 1 l.length x = some (l.map f) := by
    have := hr.src l.length (Nat.le_refl _)
    rw [List.take_length] at this
    rw [← this]
    exact srcCells_old _ _ he _ _ _ _
  have e2 : Nat.ble p i = true := Nat.ble_eq_true_of_le hp
  have e3 : (l.map f).all oneCell = true := by simp [hf]
  have e4 : lput cs 0 (l.map f) = some (l.map f) := lput_all _ _ (by simp [hc])
  simp only [copyA, hr.lenA, Option.bind_some, Nat.min_self, e1, astore, e2, if_true, hg, e3, e4, Option.map_some]
theorem NC.set {w : World} {h : Heap} {n0 nx i : Nat} {vC : Value} {rs : List Value} {V : List (List Bool)} (t : NC w h n0 nx vC rs V) (b : Blk) (hi : i < n0) : NC w (hset h i b) n0 nx vC rs V := by
  have hfv := t.fv
  refine ⟨t.cb.set b (by omega) (fun k hk => by have := t.bidr hk; omega), fun k hk => ?_, t.sep, t.fv⟩
  obtain ⟨j, c, g, e1, e2, e3, e4⟩ := t.row k hk
  exact ⟨j, c, g, e1, e2, by rw [hget_set_ne _ _ _ _ (by omega)]; exact e3, e4⟩
section
variable (w : World) (n : Nat) {vC : Value} {rs : List Value} {V : List (List Bool)} {h : Heap} {nx p : Nat}
theorem mend_w (t : CB w h nx vC rs V) (q : Int) (hq : -9223372036854775808 ≤ q ∧ q ≤ 9223372036854775807) (hp : p ≤ nx) :
    ∃ (v : Value) (h' : Heap) (n' : Nat), (EN w (n + 6)).wcall 12 [.agg [.int .i64 q, vC].toArray] ⟨h, nx, p⟩ = some (v, ⟨h', n', p⟩) ∧
      HX nx h h' ∧ nx ≤ n' ∧ MR w h' n' q V v := by
  have key : ∃ v s', (EN w (n + 6)).wcall 12 [.agg [.int .i64 q, vC].toArray] ⟨h, nx, p⟩ = some (v, s') ∧ (∃ (h' : Heap) (n' : Nat), s' = ⟨h', n', p⟩ ∧
      HX nx h h' ∧ nx ≤ n' ∧ MR w h' n' q V v) := by
    refine wcall_ex rfl (Nat.le_of_ble_eq_true rfl) ?_
    obtain ⟨H0, hH0⟩ : ∃ H0, H0 = hpush (hpush (hpush h nx [⟨[.int .i64 q, vC], 1, false, 24⟩]) (nx + 1) [⟨[.int .i64 0, .slice none 0 0], 1, false, 24⟩]) (nx + 1 + 1) [⟨(List.replicate 2 (0 : Int)).map vI, 1, false, 43⟩] := ⟨_, rfl⟩
    have hx0 : HX nx h H0 := by subst hH0; exact (((HX.refl _ _).push _ (Nat.le_refl _)).push _ (by omega)).push _ (by omega)
    have t' := t.hx hx0 (nx' := nx + 1 + 1 + 1) (by omega)
    have g1 : hget H0 nx = some ⟨[.int .i64 q, vC], 1, false, 24⟩ := by subst hH0; rw [hget_push_lt _ _ _ _ (by omega), hget_push_lt _ _ _ _ (by omega)]; exact hget_push_one _ _ _ _ rfl
    have g2 : hget H0 (nx + 1) = some ⟨[.int .i64 0, .slice none 0 0], 1, false, 24⟩ := by subst hH0; rw [hget_push_lt _ _ _ _ (by omega)]; exact hget_push_one _ _ _ _ rfl
    have g3 : hget H0 (nx + 1 + 1) = some ⟨[.int .i64 0, .int .i64 0], 1, false, 43⟩ := by subst hH0; exact hget_push_one _ _ _ _ rfl
    obtain ⟨a, b, h1, n1, hc, hx1, hn1, hrA, hrB, hbA, hbB, hfA, hfB⟩ := wrong_w w n t' q hq (p := p) (by omega)
    have himp := fun xs s => imp (n + 4) 8 xs s w rfl
    have e1 : hget h1 nx = some ⟨[.int .i64 q, vC], 1, false, 24⟩ := by rw [hx1 _ (by omega)]; exact g1
    have e2 : hget h1 (nx + 1) = some ⟨[.int .i64 0, .slice none 0 0], 1, false, 24⟩ := by rw [hx1 _ (by omega)]; exact g2
    have e3 : hget h1 (nx + 1 + 1) = some ⟨[.int .i64 0, .int .i64 0], 1, false, 43⟩ := by rw [hx1 _ (by omega)]; exact g3
    have ht1 := t'.hx hx1 hn1
    have hx01 : HX nx h h1 := hx0.trans hx1 (by omega)
    have hlen := t.len
    have hlv := t.lv
    cases hv : validS q V
    · have he : ¬ wrongE q V = 0 := by simp [wrongE, hv]
      repeat' (first | (simp (disch := first | omega | assumption | (exact id (by with_unfolding_all rfl)) | ((refine all_cons _ _ (by first | assumption | exact id (by with_unfolding_all rfl)) ?_); (repeat' (first | exact List.all_nil | refine all_cons _ _ (by first | assumption | exact id (by with_unfolding_all rfl)) ?_)); done) |  exact callP_old _ _ _ _ _ | exact one_int _ _ | exact one_bool _ | exact one_string _ | exact one_slice _ _ _ | exact one_pointer _ | exact hget_push_one _ _ _ _ (by omega) | (simp only [List.length_map, List.length_set, List.length_replicate, List.length_cons, List.length_nil]; omega) | (rw [hget_push_lt _ _ _ _ (by omega)]; first | assumption | exact hget_push_one _ _ _ _ (by omega))) only [WW0, WW1, WW2, WW3, WW4, WW5, WW6, WW7, Option.map_some, args0, slotsL, opdsA, List.cons_append, List.nil_append, List.map_cons, List.map_nil, List.append_nil, Option.toList_some, Option.toList_none, Nat.reduceEqDiff, Nat.reduceLT, Nat.reduceAdd, Nat.reduceBEq, Int.reduceAdd, Int.reduceSub, Int.reduceLT, Int.reduceLE, Int.reduceEq, Int.reduceNeg, ↓reduceIte, if_true, if_false, Bool.false_eq_true, Bool.not_true, Bool.not_false, List.length_cons, List.length_nil, List.length_singleton, reduceCtorEq, Int.toNat_natCast, Nat.zero_add, Nat.add_zero, Int.add_sub_cancel, eq_self, List.drop_zero, List.drop_succ_cons, Option.some.injEq, Prod.mk.injEq, mkFnA, Bool.and_true, Bool.true_and, Bool.and_self, zchain, ← hH0, g1, himp, hc, e1, e2, e3]) | (refine does_goI_dec (fun _ => ?_) (fun _ => ?_)) | (refine does_goG_dec (fun _ => ?_) (fun _ => ?_)) | (refine does_goI (fun _ => ?_) (fun _ => ?_)) | (refine does_goG (fun _ => ?_) (fun _ => ?_)))
      refine ⟨_, _, rfl, (hx01.set _ (by omega)).set _ (by omega), by omega, ⟨0, .slice none 0 0, [], [], 0, 0, false, by simp [mendE, he, tupleOf], CB.zero .., by simp [mendS, he]⟩⟩
    have he : wrongE q V = 0 := by simp [wrongE, hv]
    obtain ⟨v1, v2, v3, v4, v5⟩ := valid_out hv
    repeat' (first | (simp (disch := first | omega | assumption | (exact id (by with_unfolding_all rfl)) | ((refine all_cons _ _ (by first | assumption | exact id (by with_unfolding_all rfl)) ?_); (repeat' (first | exact List.all_nil | refine all_cons _ _ (by first | assumption | exact id (by with_unfolding_all rfl)) ?_)); done) |  exact callP_old _ _ _ _ _ | exact one_int _ _ | exact one_bool _ | exact one_string _ | exact one_slice _ _ _ | exact one_pointer _ | exact hget_push_one _ _ _ _ (by omega) | (simp only [List.length_map, List.length_set, List.length_replicate, List.length_cons, List.length_nil]; omega) | (rw [hget_push_lt _ _ _ _ (by omega)]; first | assumption | exact hget_push_one _ _ _ _ (by omega))) only [WW0, WW1, WW2, WW3, WW4, WW5, WW6, WW7, Option.map_some, args0, slotsL, opdsA, List.cons_append, List.nil_append, List.map_cons, List.map_nil, List.append_nil, Option.toList_some, Option.toList_none, Nat.reduceEqDiff, Nat.reduceLT, Nat.reduceAdd, Nat.reduceBEq, Int.reduceAdd, Int.reduceSub, Int.reduceLT, Int.reduceLE, Int.reduceEq, Int.reduceNeg, ↓reduceIte, if_true, if_false, Bool.false_eq_true, Bool.not_true, Bool.not_false, List.length_cons, List.length_nil, List.length_singleton, reduceCtorEq, Int.toNat_natCast, Nat.zero_add, Nat.add_zero, Int.add_sub_cancel, eq_self, List.drop_zero, List.drop_succ_cons, Option.some.injEq, Prod.mk.injEq, mkFnA, Bool.and_true, Bool.true_and, Bool.and_self, zchain, ← hH0, g1, himp, hc, e1, e2, e3, ht1.v.len]) | (refine does_goI_dec (fun _ => ?_) (fun _ => ?_)) | (refine does_goG_dec (fun _ => ?_) (fun _ => ?_)) | (refine does_goI (fun _ => ?_) (fun _ => ?_)) | (refine does_goG (fun _ => ?_) (fun _ => ?_)))
    obtain ⟨H1, hH1⟩ : ∃ H1, H1 = hset (hpush h1 n1 [⟨[.int .i64 0, .slice none 0 0], 1, false, 24⟩]) n1 ⟨[.int .i64 q, .slice none 0 0], 1, false, 24⟩ := ⟨_, rfl⟩
    rw [← hH1]
    have hx2 : HX n1 h1 H1 := by subst hH1; exact ((HX.refl _ _).push _ (Nat.le_refl _)).set _ (Nat.le_refl _)
    have f8 : hget H1 n1 = some ⟨[.int .i64 q, .slice none 0 0], 1, false, 24⟩ := by subst hH1; rw [hget_set_self, hget_push_one _ _ _ _ rfl]; rfl
    refine does_while (fun m fr t => ∃ (k : Nat) (u : Value) (ss : List Value) (h2 : Heap) (n2 : Nat), m = V.length - k ∧ k ≤ V.length ∧ fr = [(2, .pointer (some ⟨nx + 1, 0, some 0⟩)), (3, .pointer (some ⟨nx + 1 + 1, 0, some 0⟩)), (6, a), (7, b), (8, .pointer (some ⟨n1, 0, some 0⟩)), (27, vC), (28, .int .i64 rs.length), (29, .int .i64 k)] ∧ t = ⟨h2, n2, p⟩ ∧
      HX n1 H1 h2 ∧ n1 + 1 ≤ n2 ∧ hget h2 n1 = some ⟨[.int .i64 q, u], 1, false, 24⟩ ∧ Own (n1 + 1) ⟨h2, n2, p⟩ 27 1 u k ss ∧ ss.length = k ∧
      (∀ j, j < k → ∃ (i c : Nat) (g : Bool), ss[j]! = .slice (some ⟨i, 0, some 0⟩) V[j]!.length c ∧ n1 + 1 ≤ i ∧ i < n2 ∧ V[j]!.length ≤ knownCap c ∧ hget h2 i = some ⟨V[j]!.map Value.bool, 1, g, 4⟩ ∧ bidN u ≠ i + 1) ∧
      ∀ j j', j < k → j' < k → j ≠ j' → bidN ss[j]! ≠ bidN ss[j']!) (m := V.length) ?_ ?_ ?_
    · exact ⟨0, _, _, _, _, (Nat.sub_zero _).symm, Nat.zero_le _, rfl, rfl, HX.refl _ _, Nat.le_refl _, f8, Own.nil, rfl, by omega, by omega⟩
    · simp (disch := first | omega | assumption | (exact id (by with_unfolding_all rfl)) | ((refine all_cons _ _ (by first | assumption | exact id (by with_unfolding_all rfl)) ?_); (repeat' (first | exact List.all_nil | refine all_cons _ _ (by first | assumption | exact id (by with_unfolding_all rfl)) ?_)); done) |  exact callP_old _ _ _ _ _ | exact one_int _ _ | exact one_bool _ | exact one_string _ | exact one_slice _ _ _ | exact one_pointer _ | exact hget_push_one _ _ _ _ (by omega) | (simp only [List.length_map, List.length_set, List.length_replicate, List.length_cons, List.length_nil]; omega) | (rw [hget_push_lt _ _ _ _ (by omega)]; first | assumption | exact hget_push_one _ _ _ _ (by omega))) only [WW0, WW1, WW2, WW3, WW4, WW5, WW6, WW7, Option.map_some, args0, slotsL, opdsA, List.cons_append, List.nil_append, List.map_cons, List.map_nil, List.append_nil, Option.toList_some, Option.toList_none, Nat.reduceEqDiff, Nat.reduceLT, Nat.reduceAdd, Nat.reduceBEq, Int.reduceAdd, Int.reduceSub, Int.reduceLT, Int.reduceLE, Int.reduceEq, Int.reduceNeg, ↓reduceIte, if_true, if_false, Bool.false_eq_true, Bool.not_true, Bool.not_false, List.length_cons, List.length_nil, List.length_singleton, reduceCtorEq, Int.toNat_natCast, Nat.zero_add, Nat.add_zero, Int.add_sub_cancel, eq_self, List.drop_zero, List.drop_succ_cons, Option.some.injEq, Prod.mk.injEq, mkFnA, Bool.and_true, Bool.true_and, Bool.and_self]
      unfold many; omega
    · rintro m fr tt ⟨k, u, ss, h2, n2, rfl, hk, rfl, rfl, hx3, hn3, hg8, ho, hsl, hrow, hsep⟩
      have ht2 := (ht1.hx hx2 (Nat.le_refl _)).hx hx3 (nx' := n2) (by omega)
      have hx13 : HX n1 h1 h2 := hx2.trans hx3 (by omega)
      have e4 : hget h2 nx = some ⟨[.int .i64 q, vC], 1, false, 24⟩ := by rw [hx13 _ (by omega)]; exact e1
      have e5 : hget h2 (nx + 1) = some ⟨[.int .i64 0, .slice none 0 0], 1, false, 24⟩ := by rw [hx13 _ (by omega)]; exact e2
      have e6 : hget h2 (nx + 1 + 1) = some ⟨[.int .i64 0, .int .i64 0], 1, false, 43⟩ := by rw [hx13 _ (by omega)]; exact e3
      have hb2 := ho.bid2
      have hbd := ho.bid
      simp only at hbd
      by_cases hlt : k < V.length
      · have hr := ht2.r k hlt
        have hlr := t.lr k hlt
        have hbr := ht2.br k hlt
        have hrl := hr.len
        obtain ⟨H2, hH2⟩ : ∃ H2, H2 = hset (hpush h2 n2 [⟨(List.replicate V[k]!.length false).map Value.bool, 1, false, 4⟩]) n2 ⟨V[k]!.map Value.bool, 1, false, 4⟩ := ⟨_, rfl⟩
        have hcp := copy_row (E := EN w (n + 5)) (nx := n2 + 1) (p := p) (i := n2) (c := V[k]!.length) (m := V[k]!.length) (callP_old ..) (hr.push (n := n2) [⟨(List.replicate V[k]!.length false).map Value.bool, 1, false, 4⟩] hbr) (hget_push_one h2 n2 _ _ rfl) (by rw [List.length_map, List.length_replicate]) (by omega) (fun _ => rfl) rfl
        rw [← hH2] at hcp
        have hx4 : HX n1 H1 H2 := by subst hH2; exact (hx3.push _ (by omega)).set _ (by omega)
        have hg8' : hget H2 n1 = some ⟨[.int .i64 q, u], 1, false, 24⟩ := by subst hH2; rw [hget_set_ne _ _ _ _ (by omega), hget_push_lt _ _ _ _ (by omega)]; exact hg8
        have ho' : Own (n1 + 1) ⟨H2, n2 + 1, p⟩ 27 1 u k ss := ho.to (by simp) rfl fun i hi => by
          subst hH2
          rw [hget_set_ne _ _ _ _ (by omega), hget_push_lt _ _ _ _ (by omega)]
        have happ := ho'.appRow (E := EN w (n + 5)) (b := 24) (c := .slice (some ⟨n2, 0, some 0⟩) V[k]!.length V[k]!.length) (t' := 27) (g := false) rfl (by omega) (by omega)
        repeat' (first | (simp (disch := first | omega | assumption | (exact id (by with_unfolding_all rfl)) | ((refine all_cons _ _ (by first | assumption | exact id (by with_unfolding_all rfl)) ?_); (repeat' (first | exact List.all_nil | refine all_cons _ _ (by first | assumption | exact id (by with_unfolding_all rfl)) ?_)); done) |  exact callP_old _ _ _ _ _ | exact one_int _ _ | exact one_bool _ | exact one_string _ | exact one_slice _ _ _ | exact one_pointer _ | exact hget_push_one _ _ _ _ (by omega) | (simp only [List.length_map, List.length_set, List.length_replicate, List.length_cons, List.length_nil]; omega) | (rw [hget_push_lt _ _ _ _ (by omega)]; first | assumption | exact hget_push_one _ _ _ _ (by omega))) only [WW0, WW1, WW2, WW3, WW4, WW5, WW6, WW7, Option.map_some, args0, slotsL, opdsA, List.cons_append, List.nil_append, List.map_cons, List.map_nil, List.append_nil, Option.toList_some, Option.toList_none, Nat.reduceEqDiff, Nat.reduceLT, Nat.reduceAdd, Nat.reduceBEq, Int.reduceAdd, Int.reduceSub, Int.reduceLT, Int.reduceLE, Int.reduceEq, Int.reduceNeg, ↓reduceIte, if_true, if_false, Bool.false_eq_true, Bool.not_true, Bool.not_false, List.length_cons, List.length_nil, List.length_singleton, reduceCtorEq, Int.toNat_natCast, Nat.zero_add, Nat.add_zero, Int.add_sub_cancel, eq_self, List.drop_zero, List.drop_succ_cons, Option.some.injEq, Prod.mk.injEq, mkFnA, Bool.and_true, Bool.true_and, Bool.and_self, c12l0, hg8, ht2.v.len, hlen, ht2.v.idx, ht2.v.load, hrl, hcp, hg8', happ, hget_delO]) | (refine does_goI_dec (fun _ => ?_) (fun _ => ?_)) | (refine does_goG_dec (fun _ => ?_) (fun _ => ?_)) | (refine does_goI (fun _ => ?_) (fun _ => ?_)) | (refine does_goG (fun _ => ?_) (fun _ => ?_)))
        have hrv : H2 = hset (hpush h2 n2 [⟨(List.replicate V[k]!.length false).map Value.bool, 1, false, 4⟩]) n2 ⟨V[k]!.map Value.bool, 1, false, 4⟩ := hH2
        have hgn : hget H2 n2 = some ⟨V[k]!.map Value.bool, 1, false, 4⟩ := by rw [hrv, hget_set_self, hget_push_one _ _ _ _ rfl]; rfl
        have hgo : ∀ i, i < n2 → hget H2 i = hget h2 i := fun i hi => by rw [hrv, hget_set_ne _ _ _ _ (by omega), hget_push_lt _ _ _ _ hi]
        refine ⟨_, ?_, k + 1, .slice (some ⟨n2 + 1 + 1, 0, some 0⟩) (k + 1) (big + (k + 1)), ss ++ [.slice (some ⟨n2, 0, some 0⟩) V[k]!.length V[k]!.length], _, _, rfl, hlt, by simp, rfl, (((hx4.push _ (by omega)).delO (by omega)).push _ (by omega)).set _ (by omega), by omega, ?_, ?_, by simp [hsl], ?_, ?_⟩
        · omega
        · rw [hget_set_self, hget_push_lt _ _ _ _ (by omega), hget_delO _ _ _ (by omega), hget_push_lt _ _ _ _ (by omega), hg8']; rfl
        · exact (Own.grown (by simp [hsl]) (by omega) (by omega)).to (Nat.le_refl _) rfl fun i hi => by
            simp only [bidN, bidA] at hi
            exact hget_set_ne _ _ _ _ (by omega)
        · intro j hj
          by_cases e : j = k
          · subst e
            refine ⟨n2, V[j]!.length, false, by rw [get_app_r _ _ _ (by omega) (by simp; omega), hsl, Nat.sub_self]; rfl, by omega, by omega, by unfold knownCap; rw [if_pos (by rw [Nat.blt_eq]; unfold big; omega)]; exact Nat.le_refl _, ?_, by simp only [bidN, bidA]; omega⟩
            rw [hget_set_ne _ _ _ _ (by omega), hget_push_lt _ _ _ _ (by omega), hget_delO _ _ _ (by omega), hget_push_lt _ _ _ _ (by omega)]
            exact hgn
          · obtain ⟨i, c, g, r1, r2, r3, r4, r5, r6⟩ := hrow j (by omega)
            refine ⟨i, c, g, by rw [get_app_l _ _ _ (by omega)]; exact r1, r2, by omega, r4, ?_, by simp only [bidN, bidA]; omega⟩
            rw [hget_set_ne _ _ _ _ (by omega), hget_push_lt _ _ _ _ (by omega), hget_delO _ _ _ r6, hget_push_lt _ _ _ _ (by omega), hgo _ r3]
            exact r5
        · have hlast : (ss ++ [Value.slice (some ⟨n2, 0, some 0⟩) V[k]!.length V[k]!.length])[k]! = .slice (some ⟨n2, 0, some 0⟩) V[k]!.length V[k]!.length := by rw [get_app_r _ _ _ (by omega) (by simp; omega), hsl, Nat.sub_self]; rfl
          have hold : ∀ j, j < k → (ss ++ [Value.slice (some ⟨n2, 0, some 0⟩) V[k]!.length V[k]!.length])[j]! = ss[j]! ∧ bidN ss[j]! ≤ n2 := fun j hj => by
            obtain ⟨i, c, g, r1, r2, r3, _⟩ := hrow j hj
            exact ⟨get_app_l _ _ _ (by omega), by rw [r1]; simp only [bidN, bidA]; omega⟩
          have hbl : bidN (Value.slice (some ⟨n2, 0, some 0⟩) V[k]!.length V[k]!.length) = n2 + 1 := rfl
          intro j j' hj hj' hne
          by_cases e : j = k
          · subst e
            obtain ⟨e1, e2⟩ := hold j' (by omega)
            rw [hlast, e1]; omega
          · obtain ⟨e1, e2⟩ := hold j (by omega)
            by_cases e' : j' = k
            · subst e'
              rw [hlast, e1]; omega
            · rw [e1, (hold j' (by omega)).1]; exact hsep j j' (by omega) (by omega) hne
      · have : k = V.length := by omega
        subst this
        have hone := ho.one
        have hx03 : HX nx h h2 := hx01.trans hx13 (by omega)
        have hN : NC w h2 (n1 + 1) n2 u ss V := by
          refine ⟨⟨ho.rdV (old := oldOf w) hsl.symm, hsl, ?_, hbd, ?_, t.lv, t.lr⟩, ?_, hsep, by omega⟩
          · intro j hj
            obtain ⟨i, c, g, r1, r2, r3, r4, r5, r6⟩ := hrow j hj
            rw [r1]
            exact Rd.newb r5 rfl rfl r4
          · intro j hj
            obtain ⟨i, c, g, r1, r2, r3, r4, r5, r6⟩ := hrow j hj
            rw [r1]; simp only [bidN, bidA]; omega
          · intro j hj
            obtain ⟨i, c, g, r1, r2, r3, r4, r5, r6⟩ := hrow j hj
            exact ⟨i, c, g, r1, by omega, r5, r6⟩
        have hfv := hN.fv
        have hfr := fun k hk => hN.bidr (k := k) hk
        by_cases hz : (wrongA q V).length = 0 ∧ (wrongB q V).length = 0
        · obtain ⟨hz1, hz2⟩ := hz
          have hA0 := List.length_eq_zero_iff.1 hz1
          have hB0 := List.length_eq_zero_iff.1 hz2
          repeat' (first | (simp (disch := first | omega | assumption | (exact id (by with_unfolding_all rfl)) | ((refine all_cons _ _ (by first | assumption | exact id (by with_unfolding_all rfl)) ?_); (repeat' (first | exact List.all_nil | refine all_cons _ _ (by first | assumption | exact id (by with_unfolding_all rfl)) ?_)); done) |  exact callP_old _ _ _ _ _ | exact one_int _ _ | exact one_bool _ | exact one_string _ | exact one_slice _ _ _ | exact one_pointer _ | exact hget_push_one _ _ _ _ (by omega) | (simp only [List.length_map, List.length_set, List.length_replicate, List.length_cons, List.length_nil]; omega) | (rw [hget_push_lt _ _ _ _ (by omega)]; first | assumption | exact hget_push_one _ _ _ _ (by omega))) only [WW0, WW1, WW2, WW3, WW4, WW5, WW6, WW7, Option.map_some, args0, slotsL, opdsA, List.cons_append, List.nil_append, List.map_cons, List.map_nil, List.append_nil, Option.toList_some, Option.toList_none, Nat.reduceEqDiff, Nat.reduceLT, Nat.reduceAdd, Nat.reduceBEq, Int.reduceAdd, Int.reduceSub, Int.reduceLT, Int.reduceLE, Int.reduceEq, Int.reduceNeg, ↓reduceIte, if_true, if_false, Bool.false_eq_true, Bool.not_true, Bool.not_false, List.length_cons, List.length_nil, List.length_singleton, reduceCtorEq, Int.toNat_natCast, Nat.zero_add, Nat.add_zero, Int.add_sub_cancel, eq_self, List.drop_zero, List.drop_succ_cons, Option.some.injEq, Prod.mk.injEq, mkFnA, Bool.and_true, Bool.true_and, Bool.and_self, c12l0, hlen, hrA.len, hrB.len, e5, e6, hg8]) | (refine does_goI_dec (fun _ => ?_) (fun _ => ?_)) | (refine does_goG_dec (fun _ => ?_) (fun _ => ?_)) | (refine does_goI (fun _ => ?_) (fun _ => ?_)) | (refine does_goG (fun _ => ?_) (fun _ => ?_)))
          refine ⟨_, _, rfl, (hx03.set _ (by omega)).set _ (by omega), by omega, ⟨q, u, ss, V, 0, 0, false, by simp [mendE, he, hA0, hB0, tupleOf], ?_, by simp [mendS, he, hA0, hB0]⟩⟩
          exact (hN.cb.set _ (by omega) (fun k hk => by have := hfr k hk; omega)).set _ (by omega) (fun k hk => by have := hfr k hk; omega)
        by_cases hw : (wrongA q V).length = 1 ∧ (wrongB q V).length = 1
        · obtain ⟨hw1, hw2⟩ := hw
          obtain ⟨ya, hya⟩ := List.length_eq_one_iff.1 hw1
          obtain ⟨xb, hxb⟩ := List.length_eq_one_iff.1 hw2
          have hym : 0 ≤ ya ∧ ya < V.length := sel_mem (cardP V) V.length ya (by have := hya; simp only [wrongA, hv, if_true] at this; rw [this]; simp)
          have hxm : 0 ≤ xb ∧ xb < (q + 1).toNat := sel_mem (placeP V) (q + 1).toNat xb (by have := hxb; simp only [wrongB, hv, if_true] at this; rw [this]; simp)
          obtain ⟨y, rfl⟩ : ∃ y : Nat, ya = (y : Int) := ⟨ya.toNat, by omega⟩
          obtain ⟨x, rfl⟩ : ∃ x : Nat, xb = (x : Int) := ⟨xb.toNat, by omega⟩
          have hy : y < V.length := by omega
          have hx : x < V[y]!.length := by have := v5 y hy; omega
          obtain ⟨i, c, g, hi, hni, hgi, hui⟩ := hN.row y hy
          have hbi := hN.cb.br y hy
          rw [hi] at hbi
          simp only [bidN, bidA] at hbi
          obtain ⟨ia, ca, rfl, hia⟩ := hfA (by rw [hya]; simp)
          obtain ⟨ib, cb, rfl, hib⟩ := hfB (by rw [hxb]; simp)
          simp only [bidN, bidA] at hbA hbB
          have rA2 := hrA.hx hx13 (by simp only [bidN, bidA]; omega)
          have rB2 := hrB.hx hx13 (by simp only [bidN, bidA]; omega)
          have l1 := hN.cb.len
          have ka : (wrongA q V)[Int.toNat 0]! = (y : Int) := by rw [hya]; rfl
          have kb : (wrongB q V)[Int.toNat 0]! = (x : Int) := by rw [hxb]; rfl
          have l2A : loadB (hget h2 ia) (Int.toNat 0) = some (.int .i64 y) := by have := ld_of (rA2.load 0 (by rw [hya]; simp)); rw [hya] at this; exact this
          have l2B : loadB (hget h2 ib) (Int.toNat 0) = some (.int .i64 x) := by have := ld_of (rB2.load 0 (by rw [hxb]; simp)); rw [hxb] at this; exact this
          obtain ⟨H5, hH5⟩ : ∃ H5, H5 = hset h2 (nx + 1 + 1) ⟨[.int .i64 x, .int .i64 y], 1, false, 43⟩ := ⟨_, rfl⟩
          have k2 : hget H5 (nx + 1) = some ⟨[.int .i64 0, .slice none 0 0], 1, false, 24⟩ := by subst hH5; rw [hget_set_ne _ _ _ _ (by omega)]; exact e5
          have k3 : hget H5 (nx + 1 + 1) = some ⟨[.int .i64 x, .int .i64 y], 1, false, 43⟩ := by subst hH5; rw [hget_set_self, e6]; rfl
          have k4 : hget H5 n1 = some ⟨[.int .i64 q, u], 1, false, 24⟩ := by subst hH5; rw [hget_set_ne _ _ _ _ (by omega)]; exact hg8
          have hN5 : NC w H5 (n1 + 1) n2 u ss V := by subst hH5; exact hN.set _ (by omega)
          have k5 : hget H5 i = some ⟨V[y]!.map Value.bool, 1, g, 4⟩ := by subst hH5; rw [hget_set_ne _ _ _ _ (by omega)]; exact hgi
          obtain ⟨H6, hH6⟩ : ∃ H6, H6 = hset H5 i ⟨(V[y]!.set x (!V[y]![x]!)).map Value.bool, 1, g, 4⟩ := ⟨_, rfl⟩
          have j4 : hget H6 n1 = some ⟨[.int .i64 q, u], 1, false, 24⟩ := by subst hH6; rw [hget_set_ne _ _ _ _ (by omega)]; exact k4
          have j2 : hget H6 (nx + 1) = some ⟨[.int .i64 0, .slice none 0 0], 1, false, 24⟩ := by subst hH6; rw [hget_set_ne _ _ _ _ (by omega)]; exact k2
          have j3 : hget H6 (nx + 1 + 1) = some ⟨[.int .i64 x, .int .i64 y], 1, false, 43⟩ := by subst hH6; rw [hget_set_ne _ _ _ _ (by omega)]; exact k3
          repeat' (first | (simp (disch := first | omega | assumption | (exact id (by with_unfolding_all rfl)) | ((refine all_cons _ _ (by first | assumption | exact id (by with_unfolding_all rfl)) ?_); (repeat' (first | exact List.all_nil | refine all_cons _ _ (by first | assumption | exact id (by with_unfolding_all rfl)) ?_)); done) |  exact callP_old _ _ _ _ _ | exact one_int _ _ | exact one_bool _ | exact one_string _ | exact one_slice _ _ _ | exact one_pointer _ | exact hget_push_one _ _ _ _ (by omega) | (simp only [List.length_map, List.length_set, List.length_replicate, List.length_cons, List.length_nil]; omega) | (rw [hget_push_lt _ _ _ _ (by omega)]; first | assumption | exact hget_push_one _ _ _ _ (by omega))) only [WW0, WW1, WW2, WW3, WW4, WW5, WW6, WW7, Option.map_some, args0, slotsL, opdsA, List.cons_append, List.nil_append, List.map_cons, List.map_nil, List.append_nil, Option.toList_some, Option.toList_none, Nat.reduceEqDiff, Nat.reduceLT, Nat.reduceAdd, Nat.reduceBEq, Int.reduceAdd, Int.reduceSub, Int.reduceLT, Int.reduceLE, Int.reduceEq, Int.reduceNeg, ↓reduceIte, if_true, if_false, Bool.false_eq_true, Bool.not_true, Bool.not_false, List.length_cons, List.length_nil, List.length_singleton, reduceCtorEq, Int.toNat_natCast, Nat.zero_add, Nat.add_zero, Int.add_sub_cancel, eq_self, List.drop_zero, List.drop_succ_cons, Option.some.injEq, Prod.mk.injEq, mkFnA, Bool.and_true, Bool.true_and, Bool.and_self, c12l0, hlen, hrA.len, hrB.len, e5, e6, hg8, vI, ka, kb, l2A, l2B]) | (refine does_goI_dec (fun _ => ?_) (fun _ => ?_)) | (refine does_goG_dec (fun _ => ?_) (fun _ => ?_)) | (refine does_goI (fun _ => ?_) (fun _ => ?_)) | (refine does_goG (fun _ => ?_) (fun _ => ?_)))
          rw [← hH5]
          have d1 : ¬ nx = nx + 1 := by omega
          repeat' (first | (simp (disch := first | omega | assumption | (exact id (by with_unfolding_all rfl)) | ((refine all_cons _ _ (by first | assumption | exact id (by with_unfolding_all rfl)) ?_); (repeat' (first | exact List.all_nil | refine all_cons _ _ (by first | assumption | exact id (by with_unfolding_all rfl)) ?_)); done) |  exact callP_old _ _ _ _ _ | exact one_int _ _ | exact one_bool _ | exact one_string _ | exact one_slice _ _ _ | exact one_pointer _ | exact hget_push_one _ _ _ _ (by omega) | (simp only [List.length_map, List.length_set, List.length_replicate, List.length_cons, List.length_nil]; omega) | (rw [hget_push_lt _ _ _ _ (by omega)]; first | assumption | exact hget_push_one _ _ _ _ (by omega))) only [WW0, WW1, WW2, WW3, WW4, WW5, WW6, WW7, Option.map_some, args0, slotsL, opdsA, List.cons_append, List.nil_append, List.map_cons, List.map_nil, List.append_nil, Option.toList_some, Option.toList_none, Nat.reduceEqDiff, Nat.reduceLT, Nat.reduceAdd, Nat.reduceBEq, Int.reduceAdd, Int.reduceSub, Int.reduceLT, Int.reduceLE, Int.reduceEq, Int.reduceNeg, ↓reduceIte, if_true, if_false, Bool.false_eq_true, Bool.not_true, Bool.not_false, List.length_cons, List.length_nil, List.length_singleton, reduceCtorEq, Int.toNat_natCast, Nat.zero_add, Nat.add_zero, Int.add_sub_cancel, eq_self, List.drop_zero, List.drop_succ_cons, Option.some.injEq, Prod.mk.injEq, mkFnA, Bool.and_true, Bool.true_and, Bool.and_self, d1, k2, k3, k4, k5, l1, hN5.cb.v.idx, hN5.cb.v.load, hi, ← hH6, j2, j3, j4]) | (refine does_goI_dec (fun _ => ?_) (fun _ => ?_)) | (refine does_goG_dec (fun _ => ?_) (fun _ => ?_)) | (refine does_goI (fun _ => ?_) (fun _ => ?_)) | (refine does_goG (fun _ => ?_) (fun _ => ?_)))
          have hx6 : HX nx h H6 := by subst hH6 hH5; exact (hx03.set _ (by omega)).set _ (by omega)
          have hcb := hN5.flip (x := x) (g := g) (b := !V[y]![x]!) hy hi hui
          rw [← hH6] at hcb
          refine ⟨_, _, rfl, (hx6.set _ (by omega)).set _ (by omega), by omega, ⟨q, u, ss, flip V y x, x, y, true, by simp [mendE, he, hya, hxb], ?_, by simp [mendS, he, hya, hxb]⟩⟩
          exact (CB.set hcb _ (by omega) (fun k hk => by have := hfr k (by rwa [List.length_set] at hk); omega)).set _ (by omega) (fun k hk => by have := hfr k (by rwa [List.length_set] at hk); omega)
        · have hw' : ¬ (wrongA q V).length = 1 ∨ ¬ (wrongB q V).length = 1 := by omega
          have h1 : (30 : Int) = mendE q V := by
            simp only [mendE, he, if_true]
            rw [if_neg (fun e => hz ⟨by rw [e.1]; rfl, by rw [e.2]; rfl⟩), if_neg hw]
          have h2 : mendS q V = (0, [], 0, 0, false) := by
            simp only [mendS, he, if_true]
            rw [if_neg (fun e => hz ⟨by rw [e.1]; rfl, by rw [e.2]; rfl⟩), if_neg hw]
          repeat' (first | (simp (disch := first | omega | assumption | (exact id (by with_unfolding_all rfl)) | ((refine all_cons _ _ (by first | assumption | exact id (by with_unfolding_all rfl)) ?_); (repeat' (first | exact List.all_nil | refine all_cons _ _ (by first | assumption | exact id (by with_unfolding_all rfl)) ?_)); done) |  exact callP_old _ _ _ _ _ | exact one_int _ _ | exact one_bool _ | exact one_string _ | exact one_slice _ _ _ | exact one_pointer _ | exact hget_push_one _ _ _ _ (by omega) | (simp only [List.length_map, List.length_set, List.length_replicate, List.length_cons, List.length_nil]; omega) | (rw [hget_push_lt _ _ _ _ (by omega)]; first | assumption | exact hget_push_one _ _ _ _ (by omega))) only [WW0, WW1, WW2, WW3, WW4, WW5, WW6, WW7, Option.map_some, args0, slotsL, opdsA, List.cons_append, List.nil_append, List.map_cons, List.map_nil, List.append_nil, Option.toList_some, Option.toList_none, Nat.reduceEqDiff, Nat.reduceLT, Nat.reduceAdd, Nat.reduceBEq, Int.reduceAdd, Int.reduceSub, Int.reduceLT, Int.reduceLE, Int.reduceEq, Int.reduceNeg, ↓reduceIte, if_true, if_false, Bool.false_eq_true, Bool.not_true, Bool.not_false, List.length_cons, List.length_nil, List.length_singleton, reduceCtorEq, Int.toNat_natCast, Nat.zero_add, Nat.add_zero, Int.add_sub_cancel, eq_self, List.drop_zero, List.drop_succ_cons, Option.some.injEq, Prod.mk.injEq, mkFnA, Bool.and_true, Bool.true_and, Bool.and_self, c12l0, zchain, hlen, hrA.len, hrB.len, e5, e6, hg8]) | (refine does_goI_dec (fun _ => ?_) (fun _ => ?_)) | (refine does_goG_dec (fun _ => ?_) (fun _ => ?_)) | (refine does_goI (fun _ => ?_) (fun _ => ?_)) | (refine does_goG (fun _ => ?_) (fun _ => ?_)))
          all_goals refine ⟨_, _, rfl, (hx03.set _ (by omega)).set _ (by omega), by omega, ⟨0, .slice none 0 0, [], [], 0, 0, false, by rw [← h1], CB.zero .., h2⟩⟩
  obtain ⟨v, s', hc, h', n', rfl, hq⟩ := key
  exact ⟨v, h', n', hc, hq⟩
end
end Go.Proofs.Ytepdkmdcainddaa
-- lib2
namespace Go.Proofs.Ytepdkmdcainddaa
open Go Go.Itp
set_option linter.unusedSimpArgs false
set_option linter.unusedVariables false
set_option maxRecDepth 100000
set_option maxHeartbeats 1000000
attribute [local irreducible] Does

/-! ### strings.Builder -/
section
variable (E : Env) (fr : Fr) (s : St)
def unsA (h : Heap) : Value → Option Value
  | .pointer none => some (.pointer none)
  | .pointer (some a) => if inBlk h a then some (.pointer (some a)) else none
  | _ => none
def funsA (h : Heap) (t : TypeId) (n : Nat) : Value → Option Value
  | .pointer none => some (.pointer none)
  | .pointer (some a) => if wholeBlk h t n a then some (.pointer (some a)) else none
  | _ => none
def sdataA : Value → Option Value
  | .slice none _ _ => some (.pointer none)
  | .slice (some a) _ c => if Nat.beq c 0 || Nat.beq c big then none else some (.pointer (some a))
  | _ => none
def eqPtrX (neg : Bool) (a b : Value) : Option Value := (eqPtrA a b).map fun r => .bool (if neg then !r else r)
theorem s_toUns (x : Operand) : Itp.step E fr s (.toUns x) = ret1 s (op1 (unsA s.heap) (ev fr x)) := step_eq E fr s _ _ (by
  simp only [pstep, op1]
  cases ev fr x with
  | none => rfl
  | some v =>
    cases v with
    | pointer a =>
      cases a with
      | none => rfl
      | some a => simp only [Option.bind_some, unsA]; split <;> rfl
    | _ => rfl) rfl
theorem s_fromUns (t : TypeId) (n : Nat) (x : Operand) : Itp.step E fr s (.fromUns t n x) = ret1 s (op1 (funsA s.heap t n) (ev fr x)) := step_eq E fr s _ _ (by
  simp only [pstep, op1]
  cases ev fr x with
  | none => rfl
  | some v =>
    cases v with
    | pointer a =>
      cases a with
      | none => rfl
      | some a => simp only [Option.bind_some, funsA]; split <;> rfl
    | _ => rfl) rfl
theorem q_sdata (x : Operand) : pstep E fr s (.sdata x) = retP (op1 sdataA (ev fr x)) := by
  simp only [pstep, op1]
  cases ev fr x with
  | none => rfl
  | some v =>
    cases v with
    | slice a n c =>
      cases a with
      | none => rfl
      | some a => simp only [Option.bind_some, sdataA]; split <;> rfl
    | _ => rfl
theorem s_eqPtr (neg : Bool) (x y : Operand) : Itp.step E fr s (.eqPtr neg x y) = ret1 s (op2 (eqPtrX neg) (ev fr x) (ev fr y)) := step_eq E fr s _ _ (by
  simp only [pstep, op2]
  cases ev fr x with
  | none => rfl
  | some u =>
    cases ev fr y with
    | none => rfl
    | some v => simp only [Option.bind_some, eqPtrX]; cases eqPtrA u v <;> rfl) rfl
theorem s_ustr (t : TypeId) (x y : Operand) : Itp.step E fr s (.ustr t x y) = op2 (ustrA s t) (ev fr x) (ev fr y) := rfl
end
theorem unsA_own {h : Heap} {i : Nat} {b : Blk} (hg : hget h i = some b) (hb : 0 < b.cells.length) : unsA h (.pointer (some ⟨i, 0, some 0⟩)) = some (.pointer (some ⟨i, 0, some 0⟩)) := by
  have e : Nat.blt 0 b.cells.length = true := by rw [Nat.blt_eq]; exact hb
  simp only [unsA, inBlk, hg, e, if_true]
theorem funsA_own {h : Heap} {i e n : Nat} {cs : List Value} {t : TypeId} (hg : hget h i = some ⟨cs, e, false, t⟩) (hn : 0 < n) (hb : n ≤ cs.length) : funsA h t n (.pointer (some ⟨i, 0, some 0⟩)) = some (.pointer (some ⟨i, 0, some 0⟩)) := by
  have e1 : Nat.ble n cs.length = true := Nat.ble_eq_true_of_le hb
  have e2 : Nat.blt 0 n = true := by rw [Nat.blt_eq]; exact hn
  have e3 : Nat.beq t t = true := Nat.beq_refl t
  simp only [funsA, wholeBlk, hg, e1, e2, e3, Bool.not_false, Bool.and_true, if_true]
  rfl
theorem nil_yes : eqNilA 0 false (.pointer none) (.pointer none) = some (.bool true) := rfl
theorem nil_no (a : Addr) : eqNilA 0 false (.pointer (some a)) (.pointer none) = some (.bool false) := rfl
theorem eqPtrX_own (i : Nat) : eqPtrX true (.pointer (some ⟨i, 0, some 0⟩)) (.pointer (some ⟨i, 0, some 0⟩)) = some (.bool false) := by
  simp [eqPtrX, eqPtrA]
section
variable (w : World) (n : Nat) {h : Heap} {nx p : Nat}
theorem noesc_p (a : Option Addr) (s : St) : (EN w (n + 1)).pcall 32 [.pointer a] s = some (.pointer a, []) := rfl
theorem bcheck_w {i : Nat} {a : Option Addr} {v : Value} (hg : hget h i = some ⟨[.pointer a, v], 1, false, 63⟩) (ha : a = none ∨ a = some ⟨i, 0, some 0⟩) (hi : i < nx) (hp : p ≤ i) :
    ∃ h', (EN w (n + 2)).wcall 30 [.pointer (some ⟨i, 0, some 0⟩)] ⟨h, nx, p⟩ = some (.tuple #[], ⟨h', nx, p⟩) ∧
      hget h' i = some ⟨[.pointer (some ⟨i, 0, some 0⟩), v], 1, false, 63⟩ ∧ ∀ j, j ≠ i → hget h' j = hget h j := by
  have key : ∃ v' s', (EN w (n + 2)).wcall 30 [.pointer (some ⟨i, 0, some 0⟩)] ⟨h, nx, p⟩ = some (v', s') ∧ (∃ h', v' = .tuple #[] ∧ s' = ⟨h', nx, p⟩ ∧
      hget h' i = some ⟨[.pointer (some ⟨i, 0, some 0⟩), v], 1, false, 63⟩ ∧ ∀ j, j ≠ i → hget h' j = hget h j) := by
    refine wcall_ex rfl (Nat.le_of_ble_eq_true rfl) ?_
    have e1 := unsA_own hg (Nat.zero_lt_succ _)
    have e2 := funsA_own hg (n := 2) (by omega) (Nat.le_refl _)
    rcases ha with rfl | rfl
    · repeat' (first | (simp (disch := first | omega | assumption | (exact id (by with_unfolding_all rfl)) | ((refine all_cons _ _ (by first | assumption | exact id (by with_unfolding_all rfl)) ?_); (repeat' (first | exact List.all_nil | refine all_cons _ _ (by first | assumption | exact id (by with_unfolding_all rfl)) ?_)); done) |  exact callP_old _ _ _ _ _ | exact one_int _ _ | exact one_bool _ | exact one_string _ | exact one_slice _ _ _ | exact one_pointer _ | exact hget_push_one _ _ _ _ (by omega) | (simp only [List.length_map, List.length_set, List.length_replicate, List.length_cons, List.length_nil]; omega) | (rw [hget_push_lt _ _ _ _ (by omega)]; first | assumption | exact hget_push_one _ _ _ _ (by omega))) only [WW0, WW1, WW2, WW3, WW4, WW5, WW6, WW7, Option.map_some, args0, slotsL, opdsA, List.cons_append, List.nil_append, List.map_cons, List.map_nil, List.append_nil, Option.toList_some, Option.toList_none, Nat.reduceEqDiff, Nat.reduceLT, Nat.reduceAdd, Nat.reduceBEq, Int.reduceAdd, Int.reduceSub, Int.reduceLT, Int.reduceLE, Int.reduceEq, Int.reduceNeg, ↓reduceIte, if_true, if_false, Bool.false_eq_true, Bool.not_true, Bool.not_false, List.length_cons, List.length_nil, List.length_singleton, reduceCtorEq, Int.toNat_natCast, Nat.zero_add, Nat.add_zero, Int.add_sub_cancel, eq_self, List.drop_zero, List.drop_succ_cons, Option.some.injEq, Prod.mk.injEq, mkFnA, Bool.and_true, Bool.true_and, Bool.and_self, hg, s_toUns, s_fromUns, s_eqPtr, nilChkA, nil_yes, nil_no, e1, e2, noesc_p]) | (refine does_goI_dec (fun _ => ?_) (fun _ => ?_)) | (refine does_goG_dec (fun _ => ?_) (fun _ => ?_)) | (refine does_goI (fun _ => ?_) (fun _ => ?_)) | (refine does_goG (fun _ => ?_) (fun _ => ?_)))
      all_goals exact ⟨_, rfl, rfl, by rw [hget_set_self, hg]; rfl, fun j hj => hget_set_ne _ _ _ _ (by omega)⟩
    · repeat' (first | (simp (disch := first | omega | assumption | (exact id (by with_unfolding_all rfl)) | ((refine all_cons _ _ (by first | assumption | exact id (by with_unfolding_all rfl)) ?_); (repeat' (first | exact List.all_nil | refine all_cons _ _ (by first | assumption | exact id (by with_unfolding_all rfl)) ?_)); done) |  exact callP_old _ _ _ _ _ | exact one_int _ _ | exact one_bool _ | exact one_string _ | exact one_slice _ _ _ | exact one_pointer _ | exact hget_push_one _ _ _ _ (by omega) | (simp only [List.length_map, List.length_set, List.length_replicate, List.length_cons, List.length_nil]; omega) | (rw [hget_push_lt _ _ _ _ (by omega)]; first | assumption | exact hget_push_one _ _ _ _ (by omega))) only [WW0, WW1, WW2, WW3, WW4, WW5, WW6, WW7, Option.map_some, args0, slotsL, opdsA, List.cons_append, List.nil_append, List.map_cons, List.map_nil, List.append_nil, Option.toList_some, Option.toList_none, Nat.reduceEqDiff, Nat.reduceLT, Nat.reduceAdd, Nat.reduceBEq, Int.reduceAdd, Int.reduceSub, Int.reduceLT, Int.reduceLE, Int.reduceEq, Int.reduceNeg, ↓reduceIte, if_true, if_false, Bool.false_eq_true, Bool.not_true, Bool.not_false, List.length_cons, List.length_nil, List.length_singleton, reduceCtorEq, Int.toNat_natCast, Nat.zero_add, Nat.add_zero, Int.add_sub_cancel, eq_self, List.drop_zero, List.drop_succ_cons, Option.some.injEq, Prod.mk.injEq, mkFnA, Bool.and_true, Bool.true_and, Bool.and_self, hg, s_toUns, s_fromUns, s_eqPtr, nilChkA, nil_yes, nil_no, e1, e2, noesc_p, eqPtrX_own]) | (refine does_goI_dec (fun _ => ?_) (fun _ => ?_)) | (refine does_goG_dec (fun _ => ?_) (fun _ => ?_)) | (refine does_goI (fun _ => ?_) (fun _ => ?_)) | (refine does_goG (fun _ => ?_) (fun _ => ?_)))
      all_goals exact ⟨_, rfl, rfl, hg, fun _ _ => rfl⟩
  obtain ⟨v', s', hc, h', rfl, rfl, hq⟩ := key
  exact ⟨h', hc, hq⟩
theorem nbf {a b : Nat} (h : a ≠ b) : Nat.beq a b = false := by
  cases e : Nat.beq a b with
  | false => rfl
  | true => exact absurd (Nat.eq_of_beq_eq_true e) h
/-- a builder that holds l -/
def BS (lo : Nat) (h : Heap) (nx p i : Nat) (l : List UInt8) : Prop :=
  ∃ a v, hget h i = some ⟨[.pointer a, v], 1, false, 63⟩ ∧ (a = none ∨ a = some ⟨i, 0, some 0⟩) ∧ Own lo ⟨h, nx, p⟩ 5 1 v l.length (l.map vB) ∧ (l = [] → v = .slice none 0 0) ∧ i < lo ∧ lo ≤ nx ∧ p ≤ i
/-- one byte more -/
theorem wb_w {i lo : Nat} {l : List UInt8} (hb : BS lo h nx p i l) (hl : l.length ≤ 1000000000) (z : Int) (c : UInt8) (hz : z = c.toNat) :
    ∃ h', (EN w (n + 3)).wcall 26 [.pointer (some ⟨i, 0, some 0⟩), .int .u8 z] ⟨h, nx, p⟩ = some (.nilIface, ⟨h', nx + 2, p⟩) ∧ HX i h h' ∧ BS lo h' (nx + 2) p i (l ++ [c]) := by
  obtain ⟨a, v, hg, ha, ho, hno, hil, hlo, hp⟩ := hb
  have hi : i < nx := by omega
  have key : ∃ v2 s', (EN w (n + 3)).wcall 26 [.pointer (some ⟨i, 0, some 0⟩), .int .u8 z] ⟨h, nx, p⟩ = some (v2, s') ∧ (∃ h', v2 = .nilIface ∧ s' = ⟨h', nx + 2, p⟩ ∧ HX i h h' ∧ BS lo h' (nx + 2) p i (l ++ [c])) := by
    refine wcall_ex rfl (Nat.le_of_ble_eq_true rfl) ?_
    obtain ⟨h1, hc, hg1, hh1⟩ := bcheck_w w n hg ha hi hp
    have himp := fun xs s => imp (n + 1) 30 xs s w rfl
    have hb2 := ho.bid2
    have hbd := ho.bid
    simp only at hbd
    have ho1 : Own lo ⟨h1, nx, p⟩ 5 1 v l.length (l.map vB) := ho.to (Nat.le_refl _) rfl fun j hj => hh1 j (by omega)
    have happ := ho1.appRow (E := EN w (n + 2)) (b := 1) (c := .int .u8 z) (t' := 5) (g := false) rfl (by omega) (by omega)
    repeat' (first | (simp (disch := first | omega | assumption | (exact id (by with_unfolding_all rfl)) | ((refine all_cons _ _ (by first | assumption | exact id (by with_unfolding_all rfl)) ?_); (repeat' (first | exact List.all_nil | refine all_cons _ _ (by first | assumption | exact id (by with_unfolding_all rfl)) ?_)); done) |  exact callP_old _ _ _ _ _ | exact one_int _ _ | exact one_bool _ | exact one_string _ | exact one_slice _ _ _ | exact one_pointer _ | exact hget_push_one _ _ _ _ (by omega) | (simp only [List.length_map, List.length_set, List.length_replicate, List.length_cons, List.length_nil]; omega) | (rw [hget_push_lt _ _ _ _ (by omega)]; first | assumption | exact hget_push_one _ _ _ _ (by omega))) only [WW0, WW1, WW2, WW3, WW4, WW5, WW6, WW7, Option.map_some, args0, slotsL, opdsA, List.cons_append, List.nil_append, List.map_cons, List.map_nil, List.append_nil, Option.toList_some, Option.toList_none, Nat.reduceEqDiff, Nat.reduceLT, Nat.reduceAdd, Nat.reduceBEq, Int.reduceAdd, Int.reduceSub, Int.reduceLT, Int.reduceLE, Int.reduceEq, Int.reduceNeg, ↓reduceIte, if_true, if_false, Bool.false_eq_true, Bool.not_true, Bool.not_false, List.length_cons, List.length_nil, List.length_singleton, reduceCtorEq, Int.toNat_natCast, Nat.zero_add, Nat.add_zero, Int.add_sub_cancel, eq_self, List.drop_zero, List.drop_succ_cons, Option.some.injEq, Prod.mk.injEq, mkFnA, Bool.and_true, Bool.true_and, Bool.and_self, himp, hc, hg1, nilChkA, happ, hget_delO]) | (refine does_goI_dec (fun _ => ?_) (fun _ => ?_)) | (refine does_goG_dec (fun _ => ?_) (fun _ => ?_)) | (refine does_goI (fun _ => ?_) (fun _ => ?_)) | (refine does_goG (fun _ => ?_) (fun _ => ?_)))
    have hx1 : HX i h h1 := fun j hj => hh1 j (by omega)
    have e : (l ++ [c]).map vB = l.map vB ++ [.int .u8 z] := by rw [List.map_append, hz]; rfl
    refine ⟨_, rfl, (((hx1.push _ (by omega)).delO (by omega)).push _ (by omega)).set _ (by omega), some ⟨i, 0, some 0⟩, .slice (some ⟨nx + 1, 0, some 0⟩) (l.length + 1) (big + (l.length + 1)), ?_, Or.inr rfl, ?_, fun e => by simp at e, hil, by omega, hp⟩
    · rw [hget_set_self, hget_push_lt _ _ _ _ (by omega), hget_delO _ _ _ (by omega), hget_push_lt _ _ _ _ (by omega), hg1]; rfl
    · rw [e, List.length_append]
      exact (Own.grown (by simp) (by omega) (by omega)).to (Nat.le_refl _) rfl fun j hj => by
        simp only [bidN, bidA] at hj
        exact hget_set_ne _ _ _ _ (by omega)
  obtain ⟨v2, s', hc, h', rfl, rfl, hq⟩ := key
  exact ⟨h', hc, hq⟩
theorem bs_w {i lo : Nat} {l : List UInt8} (hb : BS lo h nx p i l) (hl : l.length ≤ 1000000000) :
    ∃ h', (EN w (n + 1)).wcall 27 [.pointer (some ⟨i, 0, some 0⟩)] ⟨h, nx, p⟩ = some (.string (bstr l), ⟨h', nx, p⟩) := by
  obtain ⟨a, v, hg, ha, ho, hno, hil, hlo, hp⟩ := hb
  have hi : i < nx := by omega
  have key : ∃ v2 s', (EN w (n + 1)).wcall 27 [.pointer (some ⟨i, 0, some 0⟩)] ⟨h, nx, p⟩ = some (v2, s') ∧ (∃ h', v2 = .string (bstr l) ∧ s' = ⟨h', nx, p⟩) := by
    refine wcall_ex rfl (Nat.le_of_ble_eq_true rfl) ?_
    rcases ho.is with ⟨rfl, h1, h2⟩ | ⟨j, h1, h2, h3, ⟨rfl, h4, _⟩ | ⟨rfl, h4, h5⟩⟩
    · have hl0 : l = [] := List.length_eq_zero_iff.1 h1
      subst hl0
      have es : sdataA (.slice none 0 0) = some (.pointer none) := rfl
      have eu : ∀ s, ustrA s 5 (.pointer none) (.int .i64 ((0 : Nat) : Int)) = some (.string .empty, s) := fun s => rfl
      repeat' (first | (simp (disch := first | omega | assumption | (exact id (by with_unfolding_all rfl)) | ((refine all_cons _ _ (by first | assumption | exact id (by with_unfolding_all rfl)) ?_); (repeat' (first | exact List.all_nil | refine all_cons _ _ (by first | assumption | exact id (by with_unfolding_all rfl)) ?_)); done) |  exact callP_old _ _ _ _ _ | exact one_int _ _ | exact one_bool _ | exact one_string _ | exact one_slice _ _ _ | exact one_pointer _ | exact hget_push_one _ _ _ _ (by omega) | (simp only [List.length_map, List.length_set, List.length_replicate, List.length_cons, List.length_nil]; omega) | (rw [hget_push_lt _ _ _ _ (by omega)]; first | assumption | exact hget_push_one _ _ _ _ (by omega))) only [WW0, WW1, WW2, WW3, WW4, WW5, WW6, WW7, Option.map_some, args0, slotsL, opdsA, List.cons_append, List.nil_append, List.map_cons, List.map_nil, List.append_nil, Option.toList_some, Option.toList_none, Nat.reduceEqDiff, Nat.reduceLT, Nat.reduceAdd, Nat.reduceBEq, Int.reduceAdd, Int.reduceSub, Int.reduceLT, Int.reduceLE, Int.reduceEq, Int.reduceNeg, ↓reduceIte, if_true, if_false, Bool.false_eq_true, Bool.not_true, Bool.not_false, List.length_cons, List.length_nil, List.length_singleton, reduceCtorEq, Int.toNat_natCast, Nat.zero_add, Nat.add_zero, Int.add_sub_cancel, eq_self, List.drop_zero, List.drop_succ_cons, Option.some.injEq, Prod.mk.injEq, mkFnA, Bool.and_true, Bool.true_and, Bool.and_self, hg, nilChkA, q_sdata, s_ustr, es, eu]) | (refine does_goI_dec (fun _ => ?_) (fun _ => ?_)) | (refine does_goG_dec (fun _ => ?_) (fun _ => ?_)) | (refine does_goI (fun _ => ?_) (fun _ => ?_)) | (refine does_goG (fun _ => ?_) (fun _ => ?_)))
      all_goals exact ⟨_, rfl, rfl⟩
    · have hl0 : l = [] := List.length_eq_zero_iff.1 h4
      cases hno hl0
    · have hl0 : l ≠ [] := fun e => by cases hno e
      have hlp : 0 < l.length := List.length_pos_iff.2 hl0
      have hn0 : ¬ ((l.length : Nat) : Int) = 0 := by omega
      have es : sdataA (.slice (some ⟨j, 0, some 0⟩) l.length (big + l.length)) = some (.pointer (some ⟨j, 0, some 0⟩)) := by
        have e1 : Nat.beq (big + l.length) 0 = false := nbf (by unfold big; omega)
        have e2 : Nat.beq (big + l.length) big = false := nbf (by omega)
        simp only [sdataA, e1, e2, Bool.or_false]
        rfl
      have eu : ustrA ⟨h, nx, p⟩ 5 (.pointer (some ⟨j, 0, some 0⟩)) (.int .i64 ((l.length : Nat) : Int)) = some (.string (bstr l), ⟨hdel h j, nx, p⟩) := by
        have e1 : Nat.ble p j = true := Nat.ble_eq_true_of_le h3
        have e2 : (0 : Int) < (l.length : Nat) ∧ ((l.length : Nat) : Int) ≤ room := ⟨by omega, by unfold room; omega⟩
        have e3 : Nat.beq 5 5 = true := rfl
        have e4 : ltake (l.map vB) l.length = some (l.map vB) := by have := ltake_all (l.map vB); rwa [List.length_map] at this
        simp only [ustrA, if_neg hn0, if_pos e2, e1, if_true, h5, Option.bind_some, e3, List.drop_zero, Int.toNat_natCast, e4, bytesOf_vB, Option.map_some]
        rfl
      repeat' (first | (simp (disch := first | omega | assumption | (exact id (by with_unfolding_all rfl)) | ((refine all_cons _ _ (by first | assumption | exact id (by with_unfolding_all rfl)) ?_); (repeat' (first | exact List.all_nil | refine all_cons _ _ (by first | assumption | exact id (by with_unfolding_all rfl)) ?_)); done) |  exact callP_old _ _ _ _ _ | exact one_int _ _ | exact one_bool _ | exact one_string _ | exact one_slice _ _ _ | exact one_pointer _ | exact hget_push_one _ _ _ _ (by omega) | (simp only [List.length_map, List.length_set, List.length_replicate, List.length_cons, List.length_nil]; omega) | (rw [hget_push_lt _ _ _ _ (by omega)]; first | assumption | exact hget_push_one _ _ _ _ (by omega))) only [WW0, WW1, WW2, WW3, WW4, WW5, WW6, WW7, Option.map_some, args0, slotsL, opdsA, List.cons_append, List.nil_append, List.map_cons, List.map_nil, List.append_nil, Option.toList_some, Option.toList_none, Nat.reduceEqDiff, Nat.reduceLT, Nat.reduceAdd, Nat.reduceBEq, Int.reduceAdd, Int.reduceSub, Int.reduceLT, Int.reduceLE, Int.reduceEq, Int.reduceNeg, ↓reduceIte, if_true, if_false, Bool.false_eq_true, Bool.not_true, Bool.not_false, List.length_cons, List.length_nil, List.length_singleton, reduceCtorEq, Int.toNat_natCast, Nat.zero_add, Nat.add_zero, Int.add_sub_cancel, eq_self, List.drop_zero, List.drop_succ_cons, Option.some.injEq, Prod.mk.injEq, mkFnA, Bool.and_true, Bool.true_and, Bool.and_self, hg, nilChkA, q_sdata, s_ustr, es, eu]) | (refine does_goI_dec (fun _ => ?_) (fun _ => ?_)) | (refine does_goG_dec (fun _ => ?_) (fun _ => ?_)) | (refine does_goI (fun _ => ?_) (fun _ => ?_)) | (refine does_goG (fun _ => ?_) (fun _ => ?_)))
      all_goals exact ⟨_, rfl⟩
  obtain ⟨v2, s', hc, h', rfl, rfl⟩ := key
  exact ⟨h', hc⟩
end
end Go.Proofs.Ytepdkmdcainddaa
-- lib2
namespace Go.Proofs.Ytepdkmdcainddaa
open Go Go.Itp
set_option linter.unusedSimpArgs false
set_option linter.unusedVariables false
set_option maxRecDepth 100000
set_option maxHeartbeats 1000000
attribute [local irreducible] Does

/-! ### a chain as a text -/
def rowTo (l : List Bool) (k : Nat) : List UInt8 := (List.range k).map fun x => if l[x]! then 111 else 46
def textTo (V : List (List Bool)) (k : Nat) : List UInt8 := (List.range k).flatMap fun y => rowTo V[y]! V[y]!.length ++ [10]
theorem rowTo_succ (l : List Bool) (k : Nat) : rowTo l (k + 1) = rowTo l k ++ [if l[k]! then 111 else 46] := by simp [rowTo, List.range_succ]
theorem textTo_succ (V : List (List Bool)) (k : Nat) : textTo V (k + 1) = textTo V k ++ (rowTo V[k]! V[k]!.length ++ [10]) := by simp [textTo, List.range_succ]
theorem rowTo_len (l : List Bool) (k : Nat) : (rowTo l k).length = k := by simp [rowTo]
theorem textTo_len (V : List (List Bool)) : ∀ k, (∀ i, i < k → V[i]!.length ≤ 41) → (textTo V k).length ≤ k * 42
  | 0, _ => by simp [textTo]
  | k + 1, h => by
    rw [textTo_succ, List.length_append, List.length_append, rowTo_len, List.length_singleton]
    have := textTo_len V k (fun i hi => h i (by omega))
    have := h k (by omega)
    omega
theorem b_sadd1 (l : List UInt8) (h : l.length ≤ 1000000000) (c : UInt8) : binA .add (.string (bstr l)) (.string ⟨#[c]⟩) = some (.string (bstr (l ++ [c]))) := by
  rw [b_sadd _ _ (by rw [bstr_size]; show l.length + 1 < _; omega), bstr_lit1]
theorem both_len {q : Int} {V : List (List Bool)} (h : validS q V = true) {k j : Nat} (hk : k < V.length) (hj : j ≤ V[k]!.length) : (textTo V k ++ rowTo V[k]! j).length ≤ 1000000000 := by
  obtain ⟨v1, v2, v3, v4, v5⟩ := valid_out h
  have h1 := textTo_len V k (fun i hi => by have := v5 i (by omega); omega)
  have h2 := v5 k hk
  rw [List.length_append, rowTo_len]
  omega
def textT (q : Int) (V : List (List Bool)) : ByteArray := if validS q V then bstr (textTo V V.length) else .empty
section
variable (w : World) (n : Nat) {vC : Value} {rs : List Value} {V : List (List Bool)} {h : Heap} {nx p : Nat}
theorem rtext_p (t : CB w h nx vC rs V) (q : Int) (hq : -9223372036854775808 ≤ q ∧ q ≤ 9223372036854775807) :
    (EN w (n + 2)).pcall 15 [.agg [.int .i64 q, vC].toArray] ⟨h, nx, p⟩ = some (.tuple [.string (textT q V), .int .i64 (if validS q V then 0 else 8)].toArray, []) := by
  refine pcall_eq rfl rfl (Nat.le_of_ble_eq_true rfl) ?_
  have t' := t.push [⟨[.int .i64 q, vC], 1, false, 24⟩] (nx' := nx + 1) (by omega)
  have hlen := t.len
  have hlv := t.lv
  cases hv : validS q V
  · repeat' (first | (simp (disch := first | omega | assumption | (exact id (by with_unfolding_all rfl)) | ((refine all_cons _ _ (by first | assumption | exact id (by with_unfolding_all rfl)) ?_); (repeat' (first | exact List.all_nil | refine all_cons _ _ (by first | assumption | exact id (by with_unfolding_all rfl)) ?_)); done) |  exact callP_old _ _ _ _ _ | exact one_int _ _ | exact one_bool _ | exact one_string _ | exact one_slice _ _ _ | exact one_pointer _ | exact hget_push_one _ _ _ _ (by omega) | (simp only [List.length_map, List.length_set, List.length_replicate, List.length_cons, List.length_nil]; omega) | (rw [hget_push_lt _ _ _ _ (by omega)]; first | assumption | exact hget_push_one _ _ _ _ (by omega))) only [WW0, WW1, WW2, WW3, WW4, WW5, WW6, WW7, Option.map_some, args0, slotsL, opdsA, List.cons_append, List.nil_append, List.map_cons, List.map_nil, List.append_nil, Option.toList_some, Option.toList_none, Nat.reduceEqDiff, Nat.reduceLT, Nat.reduceAdd, Nat.reduceBEq, Int.reduceAdd, Int.reduceSub, Int.reduceLT, Int.reduceLE, Int.reduceEq, Int.reduceNeg, ↓reduceIte, if_true, if_false, Bool.false_eq_true, Bool.not_true, Bool.not_false, List.length_cons, List.length_nil, List.length_singleton, reduceCtorEq, Int.toNat_natCast, Nat.zero_add, Nat.add_zero, Int.add_sub_cancel, eq_self, List.drop_zero, List.drop_succ_cons, Option.some.injEq, Prod.mk.injEq, mkFnA, Bool.and_true, Bool.true_and, Bool.and_self, chain_p w _ t' q hq, hv]) | (refine does_goI_dec (fun _ => ?_) (fun _ => ?_)) | (refine does_goG_dec (fun _ => ?_) (fun _ => ?_)) | (refine does_goI (fun _ => ?_) (fun _ => ?_)) | (refine does_goG (fun _ => ?_) (fun _ => ?_)))
    all_goals simp [textT, hv, tupleOf]
    all_goals rfl
  obtain ⟨v1, v2, v3, v4, v5⟩ := valid_out hv
  have hbox : hget (hpush h nx [⟨[.int .i64 q, vC], 1, false, 24⟩]) nx = some ⟨[.int .i64 q, vC], 1, false, 24⟩ := hget_push_one _ _ _ _ rfl
  obtain ⟨H, hH⟩ : ∃ H, H = hpush h nx [⟨[.int .i64 q, vC], 1, false, 24⟩] := ⟨_, rfl⟩
  repeat' (first | (simp (disch := first | omega | assumption | (exact id (by with_unfolding_all rfl)) | ((refine all_cons _ _ (by first | assumption | exact id (by with_unfolding_all rfl)) ?_); (repeat' (first | exact List.all_nil | refine all_cons _ _ (by first | assumption | exact id (by with_unfolding_all rfl)) ?_)); done) |  exact callP_old _ _ _ _ _ | exact one_int _ _ | exact one_bool _ | exact one_string _ | exact one_slice _ _ _ | exact one_pointer _ | exact hget_push_one _ _ _ _ (by omega) | (simp only [List.length_map, List.length_set, List.length_replicate, List.length_cons, List.length_nil]; omega) | (rw [hget_push_lt _ _ _ _ (by omega)]; first | assumption | exact hget_push_one _ _ _ _ (by omega))) only [WW0, WW1, WW2, WW3, WW4, WW5, WW6, WW7, Option.map_some, args0, slotsL, opdsA, List.cons_append, List.nil_append, List.map_cons, List.map_nil, List.append_nil, Option.toList_some, Option.toList_none, Nat.reduceEqDiff, Nat.reduceLT, Nat.reduceAdd, Nat.reduceBEq, Int.reduceAdd, Int.reduceSub, Int.reduceLT, Int.reduceLE, Int.reduceEq, Int.reduceNeg, ↓reduceIte, if_true, if_false, Bool.false_eq_true, Bool.not_true, Bool.not_false, List.length_cons, List.length_nil, List.length_singleton, reduceCtorEq, Int.toNat_natCast, Nat.zero_add, Nat.add_zero, Int.add_sub_cancel, eq_self, List.drop_zero, List.drop_succ_cons, Option.some.injEq, Prod.mk.injEq, mkFnA, Bool.and_true, Bool.true_and, Bool.and_self, chain_p w _ t' q hq, hv]) | (refine does_goI_dec (fun _ => ?_) (fun _ => ?_)) | (refine does_goG_dec (fun _ => ?_) (fun _ => ?_)) | (refine does_goI (fun _ => ?_) (fun _ => ?_)) | (refine does_goG (fun _ => ?_) (fun _ => ?_)))
  rw [← hH] at t' hbox ⊢
  refine does_while (fun m fr t => ∃ k : Nat, m = V.length - k ∧ k ≤ V.length ∧ fr = [(1, .pointer (some ⟨nx, 0, some 0⟩)), (4, .string (bstr (textTo V k))), (5, .int .i64 k)] ∧ t = ⟨H, nx + 1, nx⟩) (m := V.length) ?_ ?_ ?_
  · exact ⟨0, by omega, by omega, rfl, rfl⟩
  · simp (disch := first | omega | assumption | (exact id (by with_unfolding_all rfl)) | ((refine all_cons _ _ (by first | assumption | exact id (by with_unfolding_all rfl)) ?_); (repeat' (first | exact List.all_nil | refine all_cons _ _ (by first | assumption | exact id (by with_unfolding_all rfl)) ?_)); done) |  exact callP_old _ _ _ _ _ | exact one_int _ _ | exact one_bool _ | exact one_string _ | exact one_slice _ _ _ | exact one_pointer _ | exact hget_push_one _ _ _ _ (by omega) | (simp only [List.length_map, List.length_set, List.length_replicate, List.length_cons, List.length_nil]; omega) | (rw [hget_push_lt _ _ _ _ (by omega)]; first | assumption | exact hget_push_one _ _ _ _ (by omega))) only [WW0, WW1, WW2, WW3, WW4, WW5, WW6, WW7, Option.map_some, args0, slotsL, opdsA, List.cons_append, List.nil_append, List.map_cons, List.map_nil, List.append_nil, Option.toList_some, Option.toList_none, Nat.reduceEqDiff, Nat.reduceLT, Nat.reduceAdd, Nat.reduceBEq, Int.reduceAdd, Int.reduceSub, Int.reduceLT, Int.reduceLE, Int.reduceEq, Int.reduceNeg, ↓reduceIte, if_true, if_false, Bool.false_eq_true, Bool.not_true, Bool.not_false, List.length_cons, List.length_nil, List.length_singleton, reduceCtorEq, Int.toNat_natCast, Nat.zero_add, Nat.add_zero, Int.add_sub_cancel, eq_self, List.drop_zero, List.drop_succ_cons, Option.some.injEq, Prod.mk.injEq, mkFnA, Bool.and_true, Bool.true_and, Bool.and_self]
    unfold many; omega
  · rintro m fr tt ⟨k, rfl, hk, rfl, rfl⟩
    by_cases hlt : k < V.length
    · have hr := t'.r k hlt
      have hlr := v5 k hlt
      repeat' (first | (simp (disch := first | omega | assumption | (exact id (by with_unfolding_all rfl)) | ((refine all_cons _ _ (by first | assumption | exact id (by with_unfolding_all rfl)) ?_); (repeat' (first | exact List.all_nil | refine all_cons _ _ (by first | assumption | exact id (by with_unfolding_all rfl)) ?_)); done) |  exact callP_old _ _ _ _ _ | exact one_int _ _ | exact one_bool _ | exact one_string _ | exact one_slice _ _ _ | exact one_pointer _ | exact hget_push_one _ _ _ _ (by omega) | (simp only [List.length_map, List.length_set, List.length_replicate, List.length_cons, List.length_nil]; omega) | (rw [hget_push_lt _ _ _ _ (by omega)]; first | assumption | exact hget_push_one _ _ _ _ (by omega))) only [WW0, WW1, WW2, WW3, WW4, WW5, WW6, WW7, Option.map_some, args0, slotsL, opdsA, List.cons_append, List.nil_append, List.map_cons, List.map_nil, List.append_nil, Option.toList_some, Option.toList_none, Nat.reduceEqDiff, Nat.reduceLT, Nat.reduceAdd, Nat.reduceBEq, Int.reduceAdd, Int.reduceSub, Int.reduceLT, Int.reduceLE, Int.reduceEq, Int.reduceNeg, ↓reduceIte, if_true, if_false, Bool.false_eq_true, Bool.not_true, Bool.not_false, List.length_cons, List.length_nil, List.length_singleton, reduceCtorEq, Int.toNat_natCast, Nat.zero_add, Nat.add_zero, Int.add_sub_cancel, eq_self, List.drop_zero, List.drop_succ_cons, Option.some.injEq, Prod.mk.injEq, mkFnA, Bool.and_true, Bool.true_and, Bool.and_self, c15l1, hbox, t'.v.len, hlen]) | (refine does_goI_dec (fun _ => ?_) (fun _ => ?_)) | (refine does_goG_dec (fun _ => ?_) (fun _ => ?_)) | (refine does_goI (fun _ => ?_) (fun _ => ?_)) | (refine does_goG (fun _ => ?_) (fun _ => ?_)))
      refine does_while (fun m fr t => ∃ j : Nat, m = V[k]!.length - j ∧ j ≤ V[k]!.length ∧ fr = [(1, .pointer (some ⟨nx, 0, some 0⟩)), (4, .string (bstr (textTo V k ++ rowTo V[k]! j))), (5, .int .i64 k), (6, .int .i64 j)] ∧ t = ⟨H, nx + 1, nx⟩) (m := V[k]!.length) ?_ ?_ ?_
      · exact ⟨0, by omega, by omega, by simp [rowTo], rfl⟩
      · simp (disch := first | omega | assumption | (exact id (by with_unfolding_all rfl)) | ((refine all_cons _ _ (by first | assumption | exact id (by with_unfolding_all rfl)) ?_); (repeat' (first | exact List.all_nil | refine all_cons _ _ (by first | assumption | exact id (by with_unfolding_all rfl)) ?_)); done) |  exact callP_old _ _ _ _ _ | exact one_int _ _ | exact one_bool _ | exact one_string _ | exact one_slice _ _ _ | exact one_pointer _ | exact hget_push_one _ _ _ _ (by omega) | (simp only [List.length_map, List.length_set, List.length_replicate, List.length_cons, List.length_nil]; omega) | (rw [hget_push_lt _ _ _ _ (by omega)]; first | assumption | exact hget_push_one _ _ _ _ (by omega))) only [WW0, WW1, WW2, WW3, WW4, WW5, WW6, WW7, Option.map_some, args0, slotsL, opdsA, List.cons_append, List.nil_append, List.map_cons, List.map_nil, List.append_nil, Option.toList_some, Option.toList_none, Nat.reduceEqDiff, Nat.reduceLT, Nat.reduceAdd, Nat.reduceBEq, Int.reduceAdd, Int.reduceSub, Int.reduceLT, Int.reduceLE, Int.reduceEq, Int.reduceNeg, ↓reduceIte, if_true, if_false, Bool.false_eq_true, Bool.not_true, Bool.not_false, List.length_cons, List.length_nil, List.length_singleton, reduceCtorEq, Int.toNat_natCast, Nat.zero_add, Nat.add_zero, Int.add_sub_cancel, eq_self, List.drop_zero, List.drop_succ_cons, Option.some.injEq, Prod.mk.injEq, mkFnA, Bool.and_true, Bool.true_and, Bool.and_self]
        unfold many; omega
      · rintro m fr tt ⟨j, rfl, hj, rfl, rfl⟩
        have hadd := b_sadd1 _ (both_len hv hlt hj)
        by_cases hlj : j < V[k]!.length
        · have hjq : (j : Int) ≤ q := by omega
          cases hb : V[k]![j]!
          · repeat' (first | (simp (disch := first | omega | assumption | (exact id (by with_unfolding_all rfl)) | ((refine all_cons _ _ (by first | assumption | exact id (by with_unfolding_all rfl)) ?_); (repeat' (first | exact List.all_nil | refine all_cons _ _ (by first | assumption | exact id (by with_unfolding_all rfl)) ?_)); done) |  exact callP_old _ _ _ _ _ | exact one_int _ _ | exact one_bool _ | exact one_string _ | exact one_slice _ _ _ | exact one_pointer _ | exact hget_push_one _ _ _ _ (by omega) | (simp only [List.length_map, List.length_set, List.length_replicate, List.length_cons, List.length_nil]; omega) | (rw [hget_push_lt _ _ _ _ (by omega)]; first | assumption | exact hget_push_one _ _ _ _ (by omega))) only [WW0, WW1, WW2, WW3, WW4, WW5, WW6, WW7, Option.map_some, args0, slotsL, opdsA, List.cons_append, List.nil_append, List.map_cons, List.map_nil, List.append_nil, Option.toList_some, Option.toList_none, Nat.reduceEqDiff, Nat.reduceLT, Nat.reduceAdd, Nat.reduceBEq, Int.reduceAdd, Int.reduceSub, Int.reduceLT, Int.reduceLE, Int.reduceEq, Int.reduceNeg, ↓reduceIte, if_true, if_false, Bool.false_eq_true, Bool.not_true, Bool.not_false, List.length_cons, List.length_nil, List.length_singleton, reduceCtorEq, Int.toNat_natCast, Nat.zero_add, Nat.add_zero, Int.add_sub_cancel, eq_self, List.drop_zero, List.drop_succ_cons, Option.some.injEq, Prod.mk.injEq, mkFnA, Bool.and_true, Bool.true_and, Bool.and_self, c15l0, hbox, t'.v.idx, t'.v.load, hr.idx, hr.load, hb, hadd]) | (refine does_goI_dec (fun _ => ?_) (fun _ => ?_)) | (refine does_goG_dec (fun _ => ?_) (fun _ => ?_)) | (refine does_goI (fun _ => ?_) (fun _ => ?_)) | (refine does_goG (fun _ => ?_) (fun _ => ?_)))
            refine ⟨_, ?_, j + 1, rfl, hlj, by rw [rowTo_succ, hb]; simp⟩
            omega
          · repeat' (first | (simp (disch := first | omega | assumption | (exact id (by with_unfolding_all rfl)) | ((refine all_cons _ _ (by first | assumption | exact id (by with_unfolding_all rfl)) ?_); (repeat' (first | exact List.all_nil | refine all_cons _ _ (by first | assumption | exact id (by with_unfolding_all rfl)) ?_)); done) |  exact callP_old _ _ _ _ _ | exact one_int _ _ | exact one_bool _ | exact one_string _ | exact one_slice _ _ _ | exact one_pointer _ | exact hget_push_one _ _ _ _ (by omega) | (simp only [List.length_map, List.length_set, List.length_replicate, List.length_cons, List.length_nil]; omega) | (rw [hget_push_lt _ _ _ _ (by omega)]; first | assumption | exact hget_push_one _ _ _ _ (by omega))) only [WW0, WW1, WW2, WW3, WW4, WW5, WW6, WW7, Option.map_some, args0, slotsL, opdsA, List.cons_append, List.nil_append, List.map_cons, List.map_nil, List.append_nil, Option.toList_some, Option.toList_none, Nat.reduceEqDiff, Nat.reduceLT, Nat.reduceAdd, Nat.reduceBEq, Int.reduceAdd, Int.reduceSub, Int.reduceLT, Int.reduceLE, Int.reduceEq, Int.reduceNeg, ↓reduceIte, if_true, if_false, Bool.false_eq_true, Bool.not_true, Bool.not_false, List.length_cons, List.length_nil, List.length_singleton, reduceCtorEq, Int.toNat_natCast, Nat.zero_add, Nat.add_zero, Int.add_sub_cancel, eq_self, List.drop_zero, List.drop_succ_cons, Option.some.injEq, Prod.mk.injEq, mkFnA, Bool.and_true, Bool.true_and, Bool.and_self, c15l0, hbox, t'.v.idx, t'.v.load, hr.idx, hr.load, hb, hadd]) | (refine does_goI_dec (fun _ => ?_) (fun _ => ?_)) | (refine does_goG_dec (fun _ => ?_) (fun _ => ?_)) | (refine does_goI (fun _ => ?_) (fun _ => ?_)) | (refine does_goG (fun _ => ?_) (fun _ => ?_)))
            refine ⟨_, ?_, j + 1, rfl, hlj, by rw [rowTo_succ, hb]; simp⟩
            omega
        · have : j = V[k]!.length := by omega
          subst this
          have hjq : ¬ ((V[k]!.length : Nat) : Int) ≤ q := by omega
          repeat' (first | (simp (disch := first | omega | assumption | (exact id (by with_unfolding_all rfl)) | ((refine all_cons _ _ (by first | assumption | exact id (by with_unfolding_all rfl)) ?_); (repeat' (first | exact List.all_nil | refine all_cons _ _ (by first | assumption | exact id (by with_unfolding_all rfl)) ?_)); done) |  exact callP_old _ _ _ _ _ | exact one_int _ _ | exact one_bool _ | exact one_string _ | exact one_slice _ _ _ | exact one_pointer _ | exact hget_push_one _ _ _ _ (by omega) | (simp only [List.length_map, List.length_set, List.length_replicate, List.length_cons, List.length_nil]; omega) | (rw [hget_push_lt _ _ _ _ (by omega)]; first | assumption | exact hget_push_one _ _ _ _ (by omega))) only [WW0, WW1, WW2, WW3, WW4, WW5, WW6, WW7, Option.map_some, args0, slotsL, opdsA, List.cons_append, List.nil_append, List.map_cons, List.map_nil, List.append_nil, Option.toList_some, Option.toList_none, Nat.reduceEqDiff, Nat.reduceLT, Nat.reduceAdd, Nat.reduceBEq, Int.reduceAdd, Int.reduceSub, Int.reduceLT, Int.reduceLE, Int.reduceEq, Int.reduceNeg, ↓reduceIte, if_true, if_false, Bool.false_eq_true, Bool.not_true, Bool.not_false, List.length_cons, List.length_nil, List.length_singleton, reduceCtorEq, Int.toNat_natCast, Nat.zero_add, Nat.add_zero, Int.add_sub_cancel, eq_self, List.drop_zero, List.drop_succ_cons, Option.some.injEq, Prod.mk.injEq, mkFnA, Bool.and_true, Bool.true_and, Bool.and_self, c15l0, hbox, hadd]) | (refine does_goI_dec (fun _ => ?_) (fun _ => ?_)) | (refine does_goG_dec (fun _ => ?_) (fun _ => ?_)) | (refine does_goI (fun _ => ?_) (fun _ => ?_)) | (refine does_goG (fun _ => ?_) (fun _ => ?_)))
          refine ⟨_, ?_, k + 1, rfl, hlt, by simp [textTo_succ]⟩
          omega
    · have : k = V.length := by omega
      subst this
      repeat' (first | (simp (disch := first | omega | assumption | (exact id (by with_unfolding_all rfl)) | ((refine all_cons _ _ (by first | assumption | exact id (by with_unfolding_all rfl)) ?_); (repeat' (first | exact List.all_nil | refine all_cons _ _ (by first | assumption | exact id (by with_unfolding_all rfl)) ?_)); done) |  exact callP_old _ _ _ _ _ | exact one_int _ _ | exact one_bool _ | exact one_string _ | exact one_slice _ _ _ | exact one_pointer _ | exact hget_push_one _ _ _ _ (by omega) | (simp only [List.length_map, List.length_set, List.length_replicate, List.length_cons, List.length_nil]; omega) | (rw [hget_push_lt _ _ _ _ (by omega)]; first | assumption | exact hget_push_one _ _ _ _ (by omega))) only [WW0, WW1, WW2, WW3, WW4, WW5, WW6, WW7, Option.map_some, args0, slotsL, opdsA, List.cons_append, List.nil_append, List.map_cons, List.map_nil, List.append_nil, Option.toList_some, Option.toList_none, Nat.reduceEqDiff, Nat.reduceLT, Nat.reduceAdd, Nat.reduceBEq, Int.reduceAdd, Int.reduceSub, Int.reduceLT, Int.reduceLE, Int.reduceEq, Int.reduceNeg, ↓reduceIte, if_true, if_false, Bool.false_eq_true, Bool.not_true, Bool.not_false, List.length_cons, List.length_nil, List.length_singleton, reduceCtorEq, Int.toNat_natCast, Nat.zero_add, Nat.add_zero, Int.add_sub_cancel, eq_self, List.drop_zero, List.drop_succ_cons, Option.some.injEq, Prod.mk.injEq, mkFnA, Bool.and_true, Bool.true_and, Bool.and_self, c15l1, hbox, t'.v.len, hlen]) | (refine does_goI_dec (fun _ => ?_) (fun _ => ?_)) | (refine does_goG_dec (fun _ => ?_) (fun _ => ?_)) | (refine does_goI (fun _ => ?_) (fun _ => ?_)) | (refine does_goG (fun _ => ?_) (fun _ => ?_)))
      all_goals simp [textT, hv, tupleOf]
end
end Go.Proofs.Ytepdkmdcainddaa
-- lib2
namespace Go.Proofs.Ytepdkmdcainddaa
open Go Go.Itp
set_option linter.unusedSimpArgs false
set_option linter.unusedVariables false
set_option maxRecDepth 100000
set_option maxHeartbeats 1000000
attribute [local irreducible] Does

section
variable (w : World) (n : Nat) {vC : Value} {rs : List Value} {V : List (List Bool)} {h : Heap} {nx p : Nat}
theorem text_p (t : CB w h nx vC rs V) (q : Int) (hq : -9223372036854775808 ≤ q ∧ q ≤ 9223372036854775807) :
    (EN w (n + 5)).pcall 14 [.agg [.int .i64 q, vC].toArray] ⟨h, nx, p⟩ = some (.tuple [.string (textT q V), .int .i64 (if validS q V then 0 else 8)].toArray, []) := by
  refine pcall_eq rfl rfl (Nat.le_of_ble_eq_true rfl) ?_
  have t' := t.push [⟨[.int .i64 q, vC], 1, false, 24⟩] (nx' := nx + 1) (by omega)
  have hlen := t.len
  have hlv := t.lv
  cases hv : validS q V
  · repeat' (first | (simp (disch := first | omega | assumption | (exact id (by with_unfolding_all rfl)) | ((refine all_cons _ _ (by first | assumption | exact id (by with_unfolding_all rfl)) ?_); (repeat' (first | exact List.all_nil | refine all_cons _ _ (by first | assumption | exact id (by with_unfolding_all rfl)) ?_)); done) |  exact callP_old _ _ _ _ _ | exact one_int _ _ | exact one_bool _ | exact one_string _ | exact one_slice _ _ _ | exact one_pointer _ | exact hget_push_one _ _ _ _ (by omega) | (simp only [List.length_map, List.length_set, List.length_replicate, List.length_cons, List.length_nil]; omega) | (rw [hget_push_lt _ _ _ _ (by omega)]; first | assumption | exact hget_push_one _ _ _ _ (by omega))) only [WW0, WW1, WW2, WW3, WW4, WW5, WW6, WW7, Option.map_some, args0, slotsL, opdsA, List.cons_append, List.nil_append, List.map_cons, List.map_nil, List.append_nil, Option.toList_some, Option.toList_none, Nat.reduceEqDiff, Nat.reduceLT, Nat.reduceAdd, Nat.reduceBEq, Int.reduceAdd, Int.reduceSub, Int.reduceLT, Int.reduceLE, Int.reduceEq, Int.reduceNeg, ↓reduceIte, if_true, if_false, Bool.false_eq_true, Bool.not_true, Bool.not_false, List.length_cons, List.length_nil, List.length_singleton, reduceCtorEq, Int.toNat_natCast, Nat.zero_add, Nat.add_zero, Int.add_sub_cancel, eq_self, List.drop_zero, List.drop_succ_cons, Option.some.injEq, Prod.mk.injEq, mkFnA, Bool.and_true, Bool.true_and, Bool.and_self, valid_p w _ t' q hq, hv]) | (refine does_goI_dec (fun _ => ?_) (fun _ => ?_)) | (refine does_goG_dec (fun _ => ?_) (fun _ => ?_)) | (refine does_goI (fun _ => ?_) (fun _ => ?_)) | (refine does_goG (fun _ => ?_) (fun _ => ?_)))
    all_goals simp [textT, hv, tupleOf]
    all_goals rfl
  obtain ⟨v1, v2, v3, v4, v5⟩ := valid_out hv
  have zb : expand [(1, .pointer none), (1, .slice none 0 0)] = [.pointer none, .slice none 0 0] := rfl
  obtain ⟨H0, hH0⟩ : ∃ H0, H0 = hpush h nx [⟨[.int .i64 q, vC], 1, false, 24⟩] := ⟨_, rfl⟩
  obtain ⟨H, hH⟩ : ∃ H, H = hpush H0 (nx + 1) [⟨[.pointer none, .slice none 0 0], 1, false, 63⟩] := ⟨_, rfl⟩
  have hx0 : HX (nx + 1) H0 H := by subst hH; exact (HX.refl _ _).push _ (Nat.le_refl _)
  rw [← hH0] at t'
  have g1 : hget H0 nx = some ⟨[.int .i64 q, vC], 1, false, 24⟩ := by subst hH0; exact hget_push_one _ _ _ _ rfl
  have hbox : hget H nx = some ⟨[.int .i64 q, vC], 1, false, 24⟩ := by rw [hx0 _ (by omega)]; subst hH0; exact hget_push_one _ _ _ _ rfl
  have hb0 : BS (nx + 2) H (nx + 2) nx (nx + 1) (textTo V 0) := ⟨none, .slice none 0 0, by subst hH; exact hget_push_one _ _ _ _ rfl, Or.inl rfl, Own.nil, fun _ => rfl, by omega, by omega, by omega⟩
  have t1 := t'.hx hx0 (nx' := nx + 1) (by omega)
  have himp := fun xs s => imp (n + 3) 26 xs s w rfl
  have himps := fun xs s => imp (n + 3) 27 xs s w rfl
  repeat' (first | (simp (disch := first | omega | assumption | (exact id (by with_unfolding_all rfl)) | ((refine all_cons _ _ (by first | assumption | exact id (by with_unfolding_all rfl)) ?_); (repeat' (first | exact List.all_nil | refine all_cons _ _ (by first | assumption | exact id (by with_unfolding_all rfl)) ?_)); done) |  exact callP_old _ _ _ _ _ | exact one_int _ _ | exact one_bool _ | exact one_string _ | exact one_slice _ _ _ | exact one_pointer _ | exact hget_push_one _ _ _ _ (by omega) | (simp only [List.length_map, List.length_set, List.length_replicate, List.length_cons, List.length_nil]; omega) | (rw [hget_push_lt _ _ _ _ (by omega)]; first | assumption | exact hget_push_one _ _ _ _ (by omega))) only [WW0, WW1, WW2, WW3, WW4, WW5, WW6, WW7, Option.map_some, args0, slotsL, opdsA, List.cons_append, List.nil_append, List.map_cons, List.map_nil, List.append_nil, Option.toList_some, Option.toList_none, Nat.reduceEqDiff, Nat.reduceLT, Nat.reduceAdd, Nat.reduceBEq, Int.reduceAdd, Int.reduceSub, Int.reduceLT, Int.reduceLE, Int.reduceEq, Int.reduceNeg, ↓reduceIte, if_true, if_false, Bool.false_eq_true, Bool.not_true, Bool.not_false, List.length_cons, List.length_nil, List.length_singleton, reduceCtorEq, Int.toNat_natCast, Nat.zero_add, Nat.add_zero, Int.add_sub_cancel, eq_self, List.drop_zero, List.drop_succ_cons, Option.some.injEq, Prod.mk.injEq, mkFnA, Bool.and_true, Bool.true_and, Bool.and_self, ← hH0, g1, valid_p w _ t' q hq, hv, zb, ← hH, hbox, t1.v.len]) | (refine does_goI_dec (fun _ => ?_) (fun _ => ?_)) | (refine does_goG_dec (fun _ => ?_) (fun _ => ?_)) | (refine does_goI (fun _ => ?_) (fun _ => ?_)) | (refine does_goG (fun _ => ?_) (fun _ => ?_)))
  refine does_while (fun m fr t => ∃ (k : Nat) (h2 : Heap) (n2 : Nat), m = V.length - k ∧ k ≤ V.length ∧ fr = [(4, .pointer (some ⟨nx + 1, 0, some 0⟩)), (13, vC), (14, .int .i64 V.length), (15, .int .i64 k)] ∧ t = ⟨h2, n2, nx⟩ ∧ HX (nx + 1) H h2 ∧ nx + 2 ≤ n2 ∧ BS (nx + 2) h2 n2 nx (nx + 1) (textTo V k)) (m := V.length) ?_ ?_ ?_
  · exact ⟨0, _, _, by omega, by omega, by rw [hlen]; rfl, rfl, HX.refl _ _, Nat.le_refl _, hb0⟩
  · simp (disch := first | omega | assumption | (exact id (by with_unfolding_all rfl)) | ((refine all_cons _ _ (by first | assumption | exact id (by with_unfolding_all rfl)) ?_); (repeat' (first | exact List.all_nil | refine all_cons _ _ (by first | assumption | exact id (by with_unfolding_all rfl)) ?_)); done) |  exact callP_old _ _ _ _ _ | exact one_int _ _ | exact one_bool _ | exact one_string _ | exact one_slice _ _ _ | exact one_pointer _ | exact hget_push_one _ _ _ _ (by omega) | (simp only [List.length_map, List.length_set, List.length_replicate, List.length_cons, List.length_nil]; omega) | (rw [hget_push_lt _ _ _ _ (by omega)]; first | assumption | exact hget_push_one _ _ _ _ (by omega))) only [WW0, WW1, WW2, WW3, WW4, WW5, WW6, WW7, Option.map_some, args0, slotsL, opdsA, List.cons_append, List.nil_append, List.map_cons, List.map_nil, List.append_nil, Option.toList_some, Option.toList_none, Nat.reduceEqDiff, Nat.reduceLT, Nat.reduceAdd, Nat.reduceBEq, Int.reduceAdd, Int.reduceSub, Int.reduceLT, Int.reduceLE, Int.reduceEq, Int.reduceNeg, ↓reduceIte, if_true, if_false, Bool.false_eq_true, Bool.not_true, Bool.not_false, List.length_cons, List.length_nil, List.length_singleton, reduceCtorEq, Int.toNat_natCast, Nat.zero_add, Nat.add_zero, Int.add_sub_cancel, eq_self, List.drop_zero, List.drop_succ_cons, Option.some.injEq, Prod.mk.injEq, mkFnA, Bool.and_true, Bool.true_and, Bool.and_self]
    unfold many; omega
  · rintro m fr tt ⟨k, h2, n2, rfl, hk, rfl, rfl, hx2, hn2, hb2⟩
    have t2 := t1.hx hx2 (nx' := n2) (by omega)
    by_cases hlt : k < V.length
    · have hr := t2.r k hlt
      have hlr := v5 k hlt
      repeat' (first | (simp (disch := first | omega | assumption | (exact id (by with_unfolding_all rfl)) | ((refine all_cons _ _ (by first | assumption | exact id (by with_unfolding_all rfl)) ?_); (repeat' (first | exact List.all_nil | refine all_cons _ _ (by first | assumption | exact id (by with_unfolding_all rfl)) ?_)); done) |  exact callP_old _ _ _ _ _ | exact one_int _ _ | exact one_bool _ | exact one_string _ | exact one_slice _ _ _ | exact one_pointer _ | exact hget_push_one _ _ _ _ (by omega) | (simp only [List.length_map, List.length_set, List.length_replicate, List.length_cons, List.length_nil]; omega) | (rw [hget_push_lt _ _ _ _ (by omega)]; first | assumption | exact hget_push_one _ _ _ _ (by omega))) only [WW0, WW1, WW2, WW3, WW4, WW5, WW6, WW7, Option.map_some, args0, slotsL, opdsA, List.cons_append, List.nil_append, List.map_cons, List.map_nil, List.append_nil, Option.toList_some, Option.toList_none, Nat.reduceEqDiff, Nat.reduceLT, Nat.reduceAdd, Nat.reduceBEq, Int.reduceAdd, Int.reduceSub, Int.reduceLT, Int.reduceLE, Int.reduceEq, Int.reduceNeg, ↓reduceIte, if_true, if_false, Bool.false_eq_true, Bool.not_true, Bool.not_false, List.length_cons, List.length_nil, List.length_singleton, reduceCtorEq, Int.toNat_natCast, Nat.zero_add, Nat.add_zero, Int.add_sub_cancel, eq_self, List.drop_zero, List.drop_succ_cons, Option.some.injEq, Prod.mk.injEq, mkFnA, Bool.and_true, Bool.true_and, Bool.and_self, c14l1, t2.v.len, hlen, t2.v.idx, t2.v.load, hr.len]) | (refine does_goI_dec (fun _ => ?_) (fun _ => ?_)) | (refine does_goG_dec (fun _ => ?_) (fun _ => ?_)) | (refine does_goI (fun _ => ?_) (fun _ => ?_)) | (refine does_goG (fun _ => ?_) (fun _ => ?_)))
      refine does_while (fun m fr t => ∃ (j : Nat) (h3 : Heap) (n3 : Nat), m = V[k]!.length - j ∧ j ≤ V[k]!.length ∧ fr = [(4, .pointer (some ⟨nx + 1, 0, some 0⟩)), (13, vC), (14, .int .i64 V.length), (15, .int .i64 k), (19, rs[k]!), (20, .int .i64 V[k]!.length), (21, .int .i64 j)] ∧ t = ⟨h3, n3, nx⟩ ∧ HX (nx + 1) H h3 ∧ nx + 2 ≤ n3 ∧ BS (nx + 2) h3 n3 nx (nx + 1) (textTo V k ++ rowTo V[k]! j)) (m := V[k]!.length) ?_ ?_ ?_
      · exact ⟨0, _, _, by omega, by omega, rfl, rfl, hx2, hn2, by simpa [rowTo] using hb2⟩
      · simp (disch := first | omega | assumption | (exact id (by with_unfolding_all rfl)) | ((refine all_cons _ _ (by first | assumption | exact id (by with_unfolding_all rfl)) ?_); (repeat' (first | exact List.all_nil | refine all_cons _ _ (by first | assumption | exact id (by with_unfolding_all rfl)) ?_)); done) |  exact callP_old _ _ _ _ _ | exact one_int _ _ | exact one_bool _ | exact one_string _ | exact one_slice _ _ _ | exact one_pointer _ | exact hget_push_one _ _ _ _ (by omega) | (simp only [List.length_map, List.length_set, List.length_replicate, List.length_cons, List.length_nil]; omega) | (rw [hget_push_lt _ _ _ _ (by omega)]; first | assumption | exact hget_push_one _ _ _ _ (by omega))) only [WW0, WW1, WW2, WW3, WW4, WW5, WW6, WW7, Option.map_some, args0, slotsL, opdsA, List.cons_append, List.nil_append, List.map_cons, List.map_nil, List.append_nil, Option.toList_some, Option.toList_none, Nat.reduceEqDiff, Nat.reduceLT, Nat.reduceAdd, Nat.reduceBEq, Int.reduceAdd, Int.reduceSub, Int.reduceLT, Int.reduceLE, Int.reduceEq, Int.reduceNeg, ↓reduceIte, if_true, if_false, Bool.false_eq_true, Bool.not_true, Bool.not_false, List.length_cons, List.length_nil, List.length_singleton, reduceCtorEq, Int.toNat_natCast, Nat.zero_add, Nat.add_zero, Int.add_sub_cancel, eq_self, List.drop_zero, List.drop_succ_cons, Option.some.injEq, Prod.mk.injEq, mkFnA, Bool.and_true, Bool.true_and, Bool.and_self]
        unfold many; omega
      · rintro m fr tt ⟨j, h3, n3, rfl, hj, rfl, rfl, hx3, hn3, hb3⟩
        have t3 := t1.hx hx3 (nx' := n3) (by omega)
        have hr3 := t3.r k hlt
        have hle := both_len hv hlt hj
        by_cases hlj : j < V[k]!.length
        · cases hb : V[k]![j]!
          · obtain ⟨h4, hc4, hx4, hb4⟩ := wb_w w (n + 1) hb3 hle 46 46 rfl
            repeat' (first | (simp (disch := first | omega | assumption | (exact id (by with_unfolding_all rfl)) | ((refine all_cons _ _ (by first | assumption | exact id (by with_unfolding_all rfl)) ?_); (repeat' (first | exact List.all_nil | refine all_cons _ _ (by first | assumption | exact id (by with_unfolding_all rfl)) ?_)); done) |  exact callP_old _ _ _ _ _ | exact one_int _ _ | exact one_bool _ | exact one_string _ | exact one_slice _ _ _ | exact one_pointer _ | exact hget_push_one _ _ _ _ (by omega) | (simp only [List.length_map, List.length_set, List.length_replicate, List.length_cons, List.length_nil]; omega) | (rw [hget_push_lt _ _ _ _ (by omega)]; first | assumption | exact hget_push_one _ _ _ _ (by omega))) only [WW0, WW1, WW2, WW3, WW4, WW5, WW6, WW7, Option.map_some, args0, slotsL, opdsA, List.cons_append, List.nil_append, List.map_cons, List.map_nil, List.append_nil, Option.toList_some, Option.toList_none, Nat.reduceEqDiff, Nat.reduceLT, Nat.reduceAdd, Nat.reduceBEq, Int.reduceAdd, Int.reduceSub, Int.reduceLT, Int.reduceLE, Int.reduceEq, Int.reduceNeg, ↓reduceIte, if_true, if_false, Bool.false_eq_true, Bool.not_true, Bool.not_false, List.length_cons, List.length_nil, List.length_singleton, reduceCtorEq, Int.toNat_natCast, Nat.zero_add, Nat.add_zero, Int.add_sub_cancel, eq_self, List.drop_zero, List.drop_succ_cons, Option.some.injEq, Prod.mk.injEq, mkFnA, Bool.and_true, Bool.true_and, Bool.and_self, c14l0, hr3.idx, hr3.load, hb, himp, hc4]) | (refine does_goI_dec (fun _ => ?_) (fun _ => ?_)) | (refine does_goG_dec (fun _ => ?_) (fun _ => ?_)) | (refine does_goI (fun _ => ?_) (fun _ => ?_)) | (refine does_goG (fun _ => ?_) (fun _ => ?_)))
            refine ⟨_, ?_, j + 1, _, _, rfl, hlj, by simp, rfl, hx3.trans hx4 (Nat.le_refl _), by omega, by rw [rowTo_succ, hb, ← List.append_assoc]; exact hb4⟩
            omega
          · obtain ⟨h4, hc4, hx4, hb4⟩ := wb_w w (n + 1) hb3 hle 111 111 rfl
            repeat' (first | (simp (disch := first | omega | assumption | (exact id (by with_unfolding_all rfl)) | ((refine all_cons _ _ (by first | assumption | exact id (by with_unfolding_all rfl)) ?_); (repeat' (first | exact List.all_nil | refine all_cons _ _ (by first | assumption | exact id (by with_unfolding_all rfl)) ?_)); done) |  exact callP_old _ _ _ _ _ | exact one_int _ _ | exact one_bool _ | exact one_string _ | exact one_slice _ _ _ | exact one_pointer _ | exact hget_push_one _ _ _ _ (by omega) | (simp only [List.length_map, List.length_set, List.length_replicate, List.length_cons, List.length_nil]; omega) | (rw [hget_push_lt _ _ _ _ (by omega)]; first | assumption | exact hget_push_one _ _ _ _ (by omega))) only [WW0, WW1, WW2, WW3, WW4, WW5, WW6, WW7, Option.map_some, args0, slotsL, opdsA, List.cons_append, List.nil_append, List.map_cons, List.map_nil, List.append_nil, Option.toList_some, Option.toList_none, Nat.reduceEqDiff, Nat.reduceLT, Nat.reduceAdd, Nat.reduceBEq, Int.reduceAdd, Int.reduceSub, Int.reduceLT, Int.reduceLE, Int.reduceEq, Int.reduceNeg, ↓reduceIte, if_true, if_false, Bool.false_eq_true, Bool.not_true, Bool.not_false, List.length_cons, List.length_nil, List.length_singleton, reduceCtorEq, Int.toNat_natCast, Nat.zero_add, Nat.add_zero, Int.add_sub_cancel, eq_self, List.drop_zero, List.drop_succ_cons, Option.some.injEq, Prod.mk.injEq, mkFnA, Bool.and_true, Bool.true_and, Bool.and_self, c14l0, hr3.idx, hr3.load, hb, himp, hc4]) | (refine does_goI_dec (fun _ => ?_) (fun _ => ?_)) | (refine does_goG_dec (fun _ => ?_) (fun _ => ?_)) | (refine does_goI (fun _ => ?_) (fun _ => ?_)) | (refine does_goG (fun _ => ?_) (fun _ => ?_)))
            refine ⟨_, ?_, j + 1, _, _, rfl, hlj, by simp, rfl, hx3.trans hx4 (Nat.le_refl _), by omega, by rw [rowTo_succ, hb, ← List.append_assoc]; exact hb4⟩
            omega
        · have : j = V[k]!.length := by omega
          subst this
          obtain ⟨h4, hc4, hx4, hb4⟩ := wb_w w (n + 1) hb3 hle 10 10 rfl
          repeat' (first | (simp (disch := first | omega | assumption | (exact id (by with_unfolding_all rfl)) | ((refine all_cons _ _ (by first | assumption | exact id (by with_unfolding_all rfl)) ?_); (repeat' (first | exact List.all_nil | refine all_cons _ _ (by first | assumption | exact id (by with_unfolding_all rfl)) ?_)); done) |  exact callP_old _ _ _ _ _ | exact one_int _ _ | exact one_bool _ | exact one_string _ | exact one_slice _ _ _ | exact one_pointer _ | exact hget_push_one _ _ _ _ (by omega) | (simp only [List.length_map, List.length_set, List.length_replicate, List.length_cons, List.length_nil]; omega) | (rw [hget_push_lt _ _ _ _ (by omega)]; first | assumption | exact hget_push_one _ _ _ _ (by omega))) only [WW0, WW1, WW2, WW3, WW4, WW5, WW6, WW7, Option.map_some, args0, slotsL, opdsA, List.cons_append, List.nil_append, List.map_cons, List.map_nil, List.append_nil, Option.toList_some, Option.toList_none, Nat.reduceEqDiff, Nat.reduceLT, Nat.reduceAdd, Nat.reduceBEq, Int.reduceAdd, Int.reduceSub, Int.reduceLT, Int.reduceLE, Int.reduceEq, Int.reduceNeg, ↓reduceIte, if_true, if_false, Bool.false_eq_true, Bool.not_true, Bool.not_false, List.length_cons, List.length_nil, List.length_singleton, reduceCtorEq, Int.toNat_natCast, Nat.zero_add, Nat.add_zero, Int.add_sub_cancel, eq_self, List.drop_zero, List.drop_succ_cons, Option.some.injEq, Prod.mk.injEq, mkFnA, Bool.and_true, Bool.true_and, Bool.and_self, c14l0, himp, hc4]) | (refine does_goI_dec (fun _ => ?_) (fun _ => ?_)) | (refine does_goG_dec (fun _ => ?_) (fun _ => ?_)) | (refine does_goI (fun _ => ?_) (fun _ => ?_)) | (refine does_goG (fun _ => ?_) (fun _ => ?_)))
          refine ⟨_, ?_, k + 1, _, _, rfl, hlt, by simp, rfl, hx3.trans hx4 (Nat.le_refl _), by omega, by rw [textTo_succ, ← List.append_assoc]; exact hb4⟩
          omega
    · have : k = V.length := by omega
      subst this
      have hle := textTo_len V V.length (fun i hi => by have := v5 i hi; omega)
      obtain ⟨h4, hc4⟩ := bs_w w (n + 3) hb2 (by omega)
      repeat' (first | (simp (disch := first | omega | assumption | (exact id (by with_unfolding_all rfl)) | ((refine all_cons _ _ (by first | assumption | exact id (by with_unfolding_all rfl)) ?_); (repeat' (first | exact List.all_nil | refine all_cons _ _ (by first | assumption | exact id (by with_unfolding_all rfl)) ?_)); done) |  exact callP_old _ _ _ _ _ | exact one_int _ _ | exact one_bool _ | exact one_string _ | exact one_slice _ _ _ | exact one_pointer _ | exact hget_push_one _ _ _ _ (by omega) | (simp only [List.length_map, List.length_set, List.length_replicate, List.length_cons, List.length_nil]; omega) | (rw [hget_push_lt _ _ _ _ (by omega)]; first | assumption | exact hget_push_one _ _ _ _ (by omega))) only [WW0, WW1, WW2, WW3, WW4, WW5, WW6, WW7, Option.map_some, args0, slotsL, opdsA, List.cons_append, List.nil_append, List.map_cons, List.map_nil, List.append_nil, Option.toList_some, Option.toList_none, Nat.reduceEqDiff, Nat.reduceLT, Nat.reduceAdd, Nat.reduceBEq, Int.reduceAdd, Int.reduceSub, Int.reduceLT, Int.reduceLE, Int.reduceEq, Int.reduceNeg, ↓reduceIte, if_true, if_false, Bool.false_eq_true, Bool.not_true, Bool.not_false, List.length_cons, List.length_nil, List.length_singleton, reduceCtorEq, Int.toNat_natCast, Nat.zero_add, Nat.add_zero, Int.add_sub_cancel, eq_self, List.drop_zero, List.drop_succ_cons, Option.some.injEq, Prod.mk.injEq, mkFnA, Bool.and_true, Bool.true_and, Bool.and_self, c14l1, t2.v.len, hlen, himps, hc4]) | (refine does_goI_dec (fun _ => ?_) (fun _ => ?_)) | (refine does_goG_dec (fun _ => ?_) (fun _ => ?_)) | (refine does_goI (fun _ => ?_) (fun _ => ?_)) | (refine does_goG (fun _ => ?_) (fun _ => ?_)))
      all_goals simp [textT, hv, tupleOf]
end
end Go.Proofs.Ytepdkmdcainddaa
-- lib2
namespace Go.Proofs.Ytepdkmdcainddaa
open Go Go.Itp
set_option linter.unusedSimpArgs false
set_option linter.unusedVariables false
set_option maxRecDepth 100000
set_option maxHeartbeats 1000000
attribute [local irreducible] Does

/-- a slice that reads as a chain's cards, of any length that memory may hold -/
structure CW (w : World) (h : Heap) (nx : Nat) (vC : Value) (rs : List Value) (V : List (List Bool)) : Prop where
  v : Rd (oldOf w) h (fun x : Value => x) vC rs
  len : rs.length = V.length
  r : ∀ k, k < V.length → Rd (oldOf w) h Value.bool rs[k]! V[k]!
  bv : bidN vC ≤ nx
  br : ∀ k, k < V.length → bidN rs[k]! ≤ nx
  lv : V.length ≤ 140737488351232
  lr : ∀ k, k < V.length → V[k]!.length ≤ 140737488351232
theorem CW.push {w : World} {h : Heap} {nx nx' : Nat} {vC : Value} {rs : List Value} {V : List (List Bool)} (t : CW w h nx vC rs V) (bs : List Blk) (hn : nx ≤ nx') : CW w (hpush h nx bs) nx' vC rs V :=
  ⟨t.v.push bs t.bv, t.len, fun k hk => (t.r k hk).push bs (t.br k hk), Nat.le_trans t.bv hn, fun k hk => Nat.le_trans (t.br k hk) hn, t.lv, t.lr⟩
theorem great_no {V : List (List Bool)} (h : greatS V = false) : V.length ≤ 80 ∧ ∀ k, k < V.length → V[k]!.length ≤ 50 := by
  have h := of_decide_eq_false h
  exact ⟨Nat.le_of_not_lt fun e => h (Or.inr e), fun k hk => Nat.le_of_not_lt fun e => h (Or.inl ⟨k, hk, e⟩)⟩
theorem CW.small {w : World} {h : Heap} {nx : Nat} {vC : Value} {rs : List Value} {V : List (List Bool)} (t : CW w h nx vC rs V) (hg : greatS V = false) : CB w h nx vC rs V := by
  obtain ⟨h1, h2⟩ := great_no hg
  exact ⟨t.v, t.len, t.r, t.bv, t.br, by omega, fun k hk => by have := h2 k hk; omega⟩
def gA (q : Int) (V : List (List Bool)) : Int := if decE q V = 0 then q else 0
def gB (q : Int) (V : List (List Bool)) : Int := if decE q V = 0 then V.length - 1 else 0
def gL (q : Int) (V : List (List Bool)) : List Bool := if decE q V = 0 then bitsTo q.toNat V (V.length - 1) else []
theorem GR.out {w : World} {h : Heap} {nx : Nat} {q : Int} {V : List (List Bool)} {g : Value} (t : GR w h nx q V g) : ∃ v, g = .agg [.int .i64 (gA q V), .int .i64 (gB q V), v].toArray ∧ bidN v ≤ nx ∧ Rd (oldOf w) h Value.bool v (gL q V) := by
  obtain ⟨a, b, v, rfl, hb, h1⟩ := t.is
  unfold gA gB gL
  split at h1
  · obtain ⟨rfl, rfl, h2⟩ := h1
    rename_i hd
    rw [if_pos hd, if_pos hd, if_pos hd]
    exact ⟨v, rfl, hb, h2⟩
  · obtain ⟨rfl, rfl, h2⟩ := h1
    rename_i hd
    rw [if_neg hd, if_neg hd, if_neg hd]
    exact ⟨v, rfl, hb, h2⟩
theorem gL_len (q : Int) (V : List (List Bool)) : (gL q V).length ≤ 1000000 := by
  unfold gL
  split
  · rename_i hd
    cases hv : validS q V
    · simp [decE, wrongE, hv] at hd
    · obtain ⟨v1, v2, v3, v4, v5⟩ := valid_out hv
      rw [bitsTo_len (fun k hk => by have := v5 k hk; omega) (V.length - 1) (by omega)]
      have : (V.length - 1) * q.toNat ≤ 64 * 40 := Nat.mul_le_mul (by omega) (by omega)
      omega
  · simp
section
variable (w : World) (n : Nat) {vC : Value} {rs : List Value} {V : List (List Bool)} {h : Heap} {nx p : Nat}
theorem great_wp (t : CW w h nx vC rs V) (q : Int) :
    (EN w (n + 1)).pcall 4 [.agg [.int .i64 q, vC].toArray] ⟨h, nx, p⟩ = some (.bool (greatS V), []) := by
  refine pcall_eq rfl rfl (Nat.le_of_ble_eq_true rfl) ?_
  have t' := t.push [⟨[.int .i64 q, vC], 1, false, 24⟩] (nx' := nx + 1) (by omega)
  have hlen := t.len
  have hlv := t.lv
  repeat' (first | (simp (disch := first | omega | assumption | (exact id (by with_unfolding_all rfl)) | ((refine all_cons _ _ (by first | assumption | exact id (by with_unfolding_all rfl)) ?_); (repeat' (first | exact List.all_nil | refine all_cons _ _ (by first | assumption | exact id (by with_unfolding_all rfl)) ?_)); done) |  exact callP_old _ _ _ _ _ | exact one_int _ _ | exact one_bool _ | exact one_string _ | exact one_slice _ _ _ | exact one_pointer _ | exact hget_push_one _ _ _ _ (by omega) | (simp only [List.length_map, List.length_set, List.length_replicate, List.length_cons, List.length_nil]; omega) | (rw [hget_push_lt _ _ _ _ (by omega)]; first | assumption | exact hget_push_one _ _ _ _ (by omega))) only [WW0, WW1, WW2, WW3, WW4, WW5, WW6, WW7, Option.map_some, args0, slotsL, opdsA, List.cons_append, List.nil_append, List.map_cons, List.map_nil, List.append_nil, Option.toList_some, Option.toList_none, Nat.reduceEqDiff, Nat.reduceLT, Nat.reduceAdd, Nat.reduceBEq, Int.reduceAdd, Int.reduceSub, Int.reduceLT, Int.reduceLE, Int.reduceEq, Int.reduceNeg, ↓reduceIte, if_true, if_false, Bool.false_eq_true, Bool.not_true, Bool.not_false, List.length_cons, List.length_nil, List.length_singleton, reduceCtorEq, Int.toNat_natCast, Nat.zero_add, Nat.add_zero, Int.add_sub_cancel, eq_self, List.drop_zero, List.drop_succ_cons, Option.some.injEq, Prod.mk.injEq, mkFnA, Bool.and_true, Bool.true_and, Bool.and_self, t'.v.len]) | (refine does_goI_dec (fun _ => ?_) (fun _ => ?_)) | (refine does_goG_dec (fun _ => ?_) (fun _ => ?_)) | (refine does_goI (fun _ => ?_) (fun _ => ?_)) | (refine does_goG (fun _ => ?_) (fun _ => ?_)))
  refine does_while (fun m fr t => ∃ k : Nat, m = V.length - k ∧ k ≤ V.length ∧ fr = [(1, .pointer (some ⟨nx, 0, some 0⟩)), (3, .int .i64 k)] ∧ t = ⟨hpush h nx [⟨[.int .i64 q, vC], 1, false, 24⟩], nx + 1, nx⟩ ∧ ∀ j, j < k → ¬ 50 < V[j]!.length) (m := V.length) ?_ ?_ ?_
  · exact ⟨0, by omega, by omega, rfl, rfl, by omega⟩
  · simp (disch := first | omega | assumption | (exact id (by with_unfolding_all rfl)) | ((refine all_cons _ _ (by first | assumption | exact id (by with_unfolding_all rfl)) ?_); (repeat' (first | exact List.all_nil | refine all_cons _ _ (by first | assumption | exact id (by with_unfolding_all rfl)) ?_)); done) |  exact callP_old _ _ _ _ _ | exact one_int _ _ | exact one_bool _ | exact one_string _ | exact one_slice _ _ _ | exact one_pointer _ | exact hget_push_one _ _ _ _ (by omega) | (simp only [List.length_map, List.length_set, List.length_replicate, List.length_cons, List.length_nil]; omega) | (rw [hget_push_lt _ _ _ _ (by omega)]; first | assumption | exact hget_push_one _ _ _ _ (by omega))) only [WW0, WW1, WW2, WW3, WW4, WW5, WW6, WW7, Option.map_some, args0, slotsL, opdsA, List.cons_append, List.nil_append, List.map_cons, List.map_nil, List.append_nil, Option.toList_some, Option.toList_none, Nat.reduceEqDiff, Nat.reduceLT, Nat.reduceAdd, Nat.reduceBEq, Int.reduceAdd, Int.reduceSub, Int.reduceLT, Int.reduceLE, Int.reduceEq, Int.reduceNeg, ↓reduceIte, if_true, if_false, Bool.false_eq_true, Bool.not_true, Bool.not_false, List.length_cons, List.length_nil, List.length_singleton, reduceCtorEq, Int.toNat_natCast, Nat.zero_add, Nat.add_zero, Int.add_sub_cancel, eq_self, List.drop_zero, List.drop_succ_cons, Option.some.injEq, Prod.mk.injEq, mkFnA, Bool.and_true, Bool.true_and, Bool.and_self]
    unfold many; omega
  · rintro m fr tt ⟨k, rfl, hk, rfl, rfl, hj⟩
    by_cases hlt : k < V.length
    · have hr := t'.r k hlt
      have hlr := t.lr k hlt
      by_cases hw : 50 < V[k]!.length
      · repeat' (first | (simp (disch := first | omega | assumption | (exact id (by with_unfolding_all rfl)) | ((refine all_cons _ _ (by first | assumption | exact id (by with_unfolding_all rfl)) ?_); (repeat' (first | exact List.all_nil | refine all_cons _ _ (by first | assumption | exact id (by with_unfolding_all rfl)) ?_)); done) |  exact callP_old _ _ _ _ _ | exact one_int _ _ | exact one_bool _ | exact one_string _ | exact one_slice _ _ _ | exact one_pointer _ | exact hget_push_one _ _ _ _ (by omega) | (simp only [List.length_map, List.length_set, List.length_replicate, List.length_cons, List.length_nil]; omega) | (rw [hget_push_lt _ _ _ _ (by omega)]; first | assumption | exact hget_push_one _ _ _ _ (by omega))) only [WW0, WW1, WW2, WW3, WW4, WW5, WW6, WW7, Option.map_some, args0, slotsL, opdsA, List.cons_append, List.nil_append, List.map_cons, List.map_nil, List.append_nil, Option.toList_some, Option.toList_none, Nat.reduceEqDiff, Nat.reduceLT, Nat.reduceAdd, Nat.reduceBEq, Int.reduceAdd, Int.reduceSub, Int.reduceLT, Int.reduceLE, Int.reduceEq, Int.reduceNeg, ↓reduceIte, if_true, if_false, Bool.false_eq_true, Bool.not_true, Bool.not_false, List.length_cons, List.length_nil, List.length_singleton, reduceCtorEq, Int.toNat_natCast, Nat.zero_add, Nat.add_zero, Int.add_sub_cancel, eq_self, List.drop_zero, List.drop_succ_cons, Option.some.injEq, Prod.mk.injEq, mkFnA, Bool.and_true, Bool.true_and, Bool.and_self, c4l0, t'.v.len, t'.v.idx, t'.v.load, hr.len]) | (refine does_goI_dec (fun _ => ?_) (fun _ => ?_)) | (refine does_goG_dec (fun _ => ?_) (fun _ => ?_)) | (refine does_goI (fun _ => ?_) (fun _ => ?_)) | (refine does_goG (fun _ => ?_) (fun _ => ?_)))
        exact (decide_yes (Or.inl ⟨k, hlt, hw⟩)).symm
      · repeat' (first | (simp (disch := first | omega | assumption | (exact id (by with_unfolding_all rfl)) | ((refine all_cons _ _ (by first | assumption | exact id (by with_unfolding_all rfl)) ?_); (repeat' (first | exact List.all_nil | refine all_cons _ _ (by first | assumption | exact id (by with_unfolding_all rfl)) ?_)); done) |  exact callP_old _ _ _ _ _ | exact one_int _ _ | exact one_bool _ | exact one_string _ | exact one_slice _ _ _ | exact one_pointer _ | exact hget_push_one _ _ _ _ (by omega) | (simp only [List.length_map, List.length_set, List.length_replicate, List.length_cons, List.length_nil]; omega) | (rw [hget_push_lt _ _ _ _ (by omega)]; first | assumption | exact hget_push_one _ _ _ _ (by omega))) only [WW0, WW1, WW2, WW3, WW4, WW5, WW6, WW7, Option.map_some, args0, slotsL, opdsA, List.cons_append, List.nil_append, List.map_cons, List.map_nil, List.append_nil, Option.toList_some, Option.toList_none, Nat.reduceEqDiff, Nat.reduceLT, Nat.reduceAdd, Nat.reduceBEq, Int.reduceAdd, Int.reduceSub, Int.reduceLT, Int.reduceLE, Int.reduceEq, Int.reduceNeg, ↓reduceIte, if_true, if_false, Bool.false_eq_true, Bool.not_true, Bool.not_false, List.length_cons, List.length_nil, List.length_singleton, reduceCtorEq, Int.toNat_natCast, Nat.zero_add, Nat.add_zero, Int.add_sub_cancel, eq_self, List.drop_zero, List.drop_succ_cons, Option.some.injEq, Prod.mk.injEq, mkFnA, Bool.and_true, Bool.true_and, Bool.and_self, c4l0, t'.v.len, t'.v.idx, t'.v.load, hr.len]) | (refine does_goI_dec (fun _ => ?_) (fun _ => ?_)) | (refine does_goG_dec (fun _ => ?_) (fun _ => ?_)) | (refine does_goI (fun _ => ?_) (fun _ => ?_)) | (refine does_goG (fun _ => ?_) (fun _ => ?_)))
        refine ⟨_, ?_, k + 1, rfl, hlt, by simp, lt_succ_cases hj hw⟩
        omega
    · have : k = V.length := by omega
      subst this
      repeat' (first | (simp (disch := first | omega | assumption | (exact id (by with_unfolding_all rfl)) | ((refine all_cons _ _ (by first | assumption | exact id (by with_unfolding_all rfl)) ?_); (repeat' (first | exact List.all_nil | refine all_cons _ _ (by first | assumption | exact id (by with_unfolding_all rfl)) ?_)); done) |  exact callP_old _ _ _ _ _ | exact one_int _ _ | exact one_bool _ | exact one_string _ | exact one_slice _ _ _ | exact one_pointer _ | exact hget_push_one _ _ _ _ (by omega) | (simp only [List.length_map, List.length_set, List.length_replicate, List.length_cons, List.length_nil]; omega) | (rw [hget_push_lt _ _ _ _ (by omega)]; first | assumption | exact hget_push_one _ _ _ _ (by omega))) only [WW0, WW1, WW2, WW3, WW4, WW5, WW6, WW7, Option.map_some, args0, slotsL, opdsA, List.cons_append, List.nil_append, List.map_cons, List.map_nil, List.append_nil, Option.toList_some, Option.toList_none, Nat.reduceEqDiff, Nat.reduceLT, Nat.reduceAdd, Nat.reduceBEq, Int.reduceAdd, Int.reduceSub, Int.reduceLT, Int.reduceLE, Int.reduceEq, Int.reduceNeg, ↓reduceIte, if_true, if_false, Bool.false_eq_true, Bool.not_true, Bool.not_false, List.length_cons, List.length_nil, List.length_singleton, reduceCtorEq, Int.toNat_natCast, Nat.zero_add, Nat.add_zero, Int.add_sub_cancel, eq_self, List.drop_zero, List.drop_succ_cons, Option.some.injEq, Prod.mk.injEq, mkFnA, Bool.and_true, Bool.true_and, Bool.and_self, c4l0, t'.v.len]) | (refine does_goI_dec (fun _ => ?_) (fun _ => ?_)) | (refine does_goG_dec (fun _ => ?_) (fun _ => ?_)) | (refine does_goI (fun _ => ?_) (fun _ => ?_)) | (refine does_goG (fun _ => ?_) (fun _ => ?_)))
      rw [← hlen] at hj
      rw [Bool.eq_iff_iff]
      simp only [greatS, decide_eq_true_eq]
      constructor
      · intro h; right; omega
      · rintro (⟨j, h1, h2⟩ | h)
        · exact (hj j (by omega) h2).elim
        · omega
end
end Go.Proofs.Ytepdkmdcainddaa
-- lib2
namespace Go.Proofs.Ytepdkmdcainddaa
open Go Go.Itp
set_option linter.unusedSimpArgs false
set_option linter.unusedVariables false
set_option maxRecDepth 100000
set_option maxHeartbeats 2000000
attribute [local irreducible] Does

theorem sameI (l : List Int) : decide (l = l) = true := decide_eq_true rfl
theorem wrong_len (q : Int) (V : List (List Bool)) (hV : V.length ≤ 80) : (wrongA q V).length ≤ 1000000 ∧ (wrongB q V).length ≤ 1000000 := by
  cases hv : validS q V
  · simp [wrongA, wrongB, hv]
  · obtain ⟨v1, v2, v3, v4, v5⟩ := valid_out hv
    have h1 := sel_le (cardP V) V.length
    have h2 := sel_le (placeP V) (q + 1).toNat
    simp only [wrongA, wrongB, hv, if_true]
    omega
theorem eqPoint (x y : Int) : eqAggX false [(0, 0), (1, 0)] (.agg [.int .i64 x, .int .i64 y].toArray) (.agg [.int .i64 x, .int .i64 y].toArray) = some (.bool true) := by
  simp [eqAggX, eqAggA, eqCellsA, eqCell, lget]
section
variable (w : World) (n : Nat) {vC : Value} {rs : List Value} {V : List (List Bool)}
theorem chains_law (h : Heap) (nx : Nat) (t0 : CW w h nx vC rs V) (q : Int) (hq : -9223372036854775808 ≤ q ∧ q ≤ 9223372036854775807) :
    ∃ r s', body (EN w (n + 6)) c3 [.agg [.int .i64 q, vC].toArray] ⟨h, nx, nx⟩ = some (r, s') ∧ r = .bool true := by
  refine body_w (Nat.le_of_ble_eq_true rfl) ?_
  have t0' := t0.push [⟨[.int .i64 q, vC], 1, false, 24⟩] (nx' := nx + 1) (by omega)
  cases hgr : greatS V
  case true => repeat' (first | (simp (disch := first | omega | assumption | (exact id (by with_unfolding_all rfl)) | ((refine all_cons _ _ (by first | assumption | exact id (by with_unfolding_all rfl)) ?_); (repeat' (first | exact List.all_nil | refine all_cons _ _ (by first | assumption | exact id (by with_unfolding_all rfl)) ?_)); done) |  exact callP_old _ _ _ _ _ | exact one_int _ _ | exact one_bool _ | exact one_string _ | exact one_slice _ _ _ | exact one_pointer _ | exact hget_push_one _ _ _ _ (by omega) | (simp only [List.length_map, List.length_set, List.length_replicate, List.length_cons, List.length_nil]; omega) | (rw [hget_push_lt _ _ _ _ (by omega)]; first | assumption | exact hget_push_one _ _ _ _ (by omega))) only [WW0, WW1, WW2, WW3, WW4, WW5, WW6, WW7, Option.map_some, args0, slotsL, opdsA, List.cons_append, List.nil_append, List.map_cons, List.map_nil, List.append_nil, Option.toList_some, Option.toList_none, Nat.reduceEqDiff, Nat.reduceLT, Nat.reduceAdd, Nat.reduceBEq, Int.reduceAdd, Int.reduceSub, Int.reduceLT, Int.reduceLE, Int.reduceEq, Int.reduceNeg, ↓reduceIte, if_true, if_false, Bool.false_eq_true, Bool.not_true, Bool.not_false, List.length_cons, List.length_nil, List.length_singleton, reduceCtorEq, Int.toNat_natCast, Nat.zero_add, Nat.add_zero, Int.add_sub_cancel, eq_self, List.drop_zero, List.drop_succ_cons, Option.some.injEq, Prod.mk.injEq, mkFnA, Bool.and_true, Bool.true_and, Bool.and_self, c3, great_wp w _ t0' q, hgr]) | (refine does_goI_dec (fun _ => ?_) (fun _ => ?_)) | (refine does_goG_dec (fun _ => ?_) (fun _ => ?_)) | (refine does_goI (fun _ => ?_) (fun _ => ?_)) | (refine does_goG (fun _ => ?_) (fun _ => ?_)))
  have t := t0.small hgr
  obtain ⟨hV1, hV2⟩ := great_no hgr
  have hwl := wrong_len q V hV1
  have hlen := t.len
  obtain ⟨H1, hH1⟩ : ∃ H1, H1 = hpush h nx [⟨[.int .i64 q, vC], 1, false, 24⟩] := ⟨_, rfl⟩
  have x01 : HX nx h H1 := by subst hH1; exact (HX.refl _ _).push _ (Nat.le_refl _)
  have t1 := t.hx x01 (nx' := nx + 1) (by omega)
  have t1' := t0'
  rw [← hH1] at t1'
  have b1 : hget H1 nx = some ⟨[.int .i64 q, vC], 1, false, 24⟩ := by subst hH1; exact hget_push_one _ _ _ _ rfl
  obtain ⟨u, ss, h2, n2, c2, x12, m2, hN⟩ := twin_w w (n + 5) t1 q (p := nx) (by omega)
  have t2 := t1.hx x12 m2
  have u2 := hN.cb
  have o1 := u2.v.one
  have i2 := fun xs s => imp (n + 5) 5 xs s w rfl
  obtain ⟨H3, hH3⟩ : ∃ H3, H3 = hset (hpush h2 n2 [⟨[.int .i64 0, .slice none 0 0], 1, false, 24⟩]) n2 ⟨[.int .i64 q, u], 1, false, 24⟩ := ⟨_, rfl⟩
  have x23 : HX n2 h2 H3 := by subst hH3; exact ((HX.refl _ _).push _ (Nat.le_refl _)).set _ (Nat.le_refl _)
  have t3 := t2.hx x23 (nx' := n2 + 1) (by omega)
  have u3 := u2.hx x23 (nx' := n2 + 1) (by omega)
  have d3 : hget H3 n2 = some ⟨[.int .i64 q, u], 1, false, 24⟩ := by subst hH3; rw [hget_set_self, hget_push_one _ _ _ _ rfl]; rfl
  have b3 : hget H3 nx = some ⟨[.int .i64 q, vC], 1, false, 24⟩ := by rw [x23 _ (by omega), x12 _ (by omega)]; exact b1
  obtain ⟨g, h4, n4, c4, x34, m4, hg⟩ := decode_w w n u3 q hq (p := nx) (by omega)
  obtain ⟨gv, rfl, hgb, hgr4⟩ := hg.out
  have b4 : hget h4 nx = some ⟨[.int .i64 q, vC], 1, false, 24⟩ := by rw [x34 _ (by omega)]; exact b3
  have d4 : hget h4 n2 = some ⟨[.int .i64 q, u], 1, false, 24⟩ := by rw [x34 _ (by omega)]; exact d3
  have o2 := hgr4.one
  have i4 := fun xs s => imp (n + 5) 6 xs s w rfl
  obtain ⟨H5, hH5⟩ : ∃ H5, H5 = hset (hpush h4 n4 [⟨[.int .i64 0, .int .i64 0, .slice none 0 0], 1, false, 29⟩]) n4 ⟨[.int .i64 (gA q V), .int .i64 (gB q V), gv], 1, false, 29⟩ := ⟨_, rfl⟩
  have x45 : HX n4 h4 H5 := by subst hH5; exact ((HX.refl _ _).push _ (Nat.le_refl _)).set _ (Nat.le_refl _)
  have t5 := (t3.hx x34 m4).hx x45 (nx' := n4 + 1) (by omega)
  have u5 := (u3.hx x34 m4).hx x45 (nx' := n4 + 1) (by omega)
  have r5 := hgr4.hx x45 hgb
  have f5 : hget H5 n4 = some ⟨[.int .i64 (gA q V), .int .i64 (gB q V), gv], 1, false, 29⟩ := by subst hH5; rw [hget_set_self, hget_push_one _ _ _ _ rfl]; rfl
  have b5 : hget H5 nx = some ⟨[.int .i64 q, vC], 1, false, 24⟩ := by rw [x45 _ (by omega), x34 _ (by omega)]; exact b3
  have d5 : hget H5 n2 = some ⟨[.int .i64 q, u], 1, false, 24⟩ := by rw [x45 _ (by omega), x34 _ (by omega)]; exact d3
  obtain ⟨g', h6, n6, c6, x56, m6, hg'⟩ := rdecode_w w n t5 q hq (p := nx) (by omega)
  obtain ⟨gv', rfl, hgb', hgr6⟩ := hg'.out
  have b6 : hget h6 nx = some ⟨[.int .i64 q, vC], 1, false, 24⟩ := by rw [x56 _ (by omega)]; exact b5
  have d6 : hget h6 n2 = some ⟨[.int .i64 q, u], 1, false, 24⟩ := by rw [x56 _ (by omega)]; exact d5
  have o3 := hgr6.one
  have i6 := fun xs s => imp (n + 5) 7 xs s w rfl
  obtain ⟨H7, hH7⟩ : ∃ H7, H7 = hset (hpush h6 n6 [⟨[.int .i64 0, .int .i64 0, .slice none 0 0], 1, false, 29⟩]) n6 ⟨[.int .i64 (gA q V), .int .i64 (gB q V), gv'], 1, false, 29⟩ := ⟨_, rfl⟩
  have x67 : HX n6 h6 H7 := by subst hH7; exact ((HX.refl _ _).push _ (Nat.le_refl _)).set _ (Nat.le_refl _)
  have t7 := (t5.hx x56 m6).hx x67 (nx' := n6 + 1) (by omega)
  have u7 := (u5.hx x56 m6).hx x67 (nx' := n6 + 1) (by omega)
  have r7 := (r5.hx x56 (by omega)).hx x67 (by omega)
  have r7' := hgr6.hx x67 hgb'
  have k7 : hget H7 n6 = some ⟨[.int .i64 (gA q V), .int .i64 (gB q V), gv'], 1, false, 29⟩ := by subst hH7; rw [hget_set_self, hget_push_one _ _ _ _ rfl]; rfl
  have f7 : hget H7 n4 = some ⟨[.int .i64 (gA q V), .int .i64 (gB q V), gv], 1, false, 29⟩ := by rw [x67 _ (by omega), x56 _ (by omega)]; exact f5
  have b7 : hget H7 nx = some ⟨[.int .i64 q, vC], 1, false, 24⟩ := by rw [x67 _ (by omega), x56 _ (by omega)]; exact b5
  have d7 : hget H7 n2 = some ⟨[.int .i64 q, u], 1, false, 24⟩ := by rw [x67 _ (by omega), x56 _ (by omega)]; exact d5
  obtain ⟨A, B, h8, n8, c8, x78, m8, rA, rB, bA, bB, _, _⟩ := wrong_w w (n + 1) u7 q hq (p := nx) (by omega)
  have i8 := fun xs s => imp (n + 5) 8 xs s w rfl
  have t8 := t7.hx x78 m8
  have u8 := u7.hx x78 m8
  have b8 : hget h8 nx = some ⟨[.int .i64 q, vC], 1, false, 24⟩ := by rw [x78 _ (by omega)]; exact b7
  obtain ⟨A', B', h9, n9, c9, x89, m9, rA', rB', bA', bB', _, _⟩ := rwrong_w w (n + 1) t8 q hq (p := nx) (by omega)
  have i9 := fun xs s => imp (n + 5) 9 xs s w rfl
  have t9 := t8.hx x89 m9
  have u9 := u8.hx x89 m9
  have x79 : HX (n6 + 1) H7 h9 := x78.trans x89 m8
  have b9 : hget h9 nx = some ⟨[.int .i64 q, vC], 1, false, 24⟩ := by rw [x79 _ (by omega)]; exact b7
  have d9 : hget h9 n2 = some ⟨[.int .i64 q, u], 1, false, 24⟩ := by rw [x79 _ (by omega)]; exact d7
  have f9 : hget h9 n4 = some ⟨[.int .i64 (gA q V), .int .i64 (gB q V), gv], 1, false, 29⟩ := by rw [x79 _ (by omega)]; exact f7
  have k9 : hget h9 n6 = some ⟨[.int .i64 (gA q V), .int .i64 (gB q V), gv'], 1, false, 29⟩ := by rw [x79 _ (by omega)]; exact k7
  have rA9 := rA.hx x89 bA
  have rB9 := rB.hx x89 bB
  have s1 := same1_p w (n + 5) (p := nx) (a := gA q V) (b := gB q V) (r7.hx x79 (by omega)) (r7'.hx x79 (by omega)) (gL_len q V) (nx := n9) (by omega) (by omega)
  have s2 := same_p w (n + 5) (nx := n9) (p := nx) rA9 rA' hwl.1 hwl.1
  have s3 := same_p w (n + 5) (nx := n9) (p := nx) rB9 rB' hwl.2 hwl.2
  rw [sameI] at s2 s3
  obtain ⟨vm, h10, n10, c10, x9a, m10, hM⟩ := mend_w w n u9 q hq (p := nx) (by omega)
  obtain ⟨q', u', ss', V', x, y, c, rfl, hC, hS⟩ := hM.is
  have o4 := hC.v.one
  have i10 := fun xs s => imp (n + 5) 12 xs s w rfl
  have b10 : hget h10 nx = some ⟨[.int .i64 q, vC], 1, false, 24⟩ := by rw [x9a _ (by omega)]; exact b9
  obtain ⟨H11, hH11⟩ : ∃ H11, H11 = hset (hset (hpush (hpush h10 n10 [⟨[.int .i64 0, .slice none 0 0], 1, false, 24⟩]) (n10 + 1) [⟨(List.replicate 2 (0 : Int)).map vI, 1, false, 43⟩]) n10 ⟨[.int .i64 q', u'], 1, false, 24⟩) (n10 + 1) ⟨[.int .i64 x, .int .i64 y], 1, false, 43⟩ := ⟨_, rfl⟩
  have xab : HX n10 h10 H11 := by subst hH11; exact ((((HX.refl _ _).push _ (Nat.le_refl _)).push _ (by omega)).set _ (Nat.le_refl _)).set _ (by omega)
  have l11 : hget H11 n10 = some ⟨[.int .i64 q', u'], 1, false, 24⟩ := by subst hH11; rw [hget_set_ne _ _ _ _ (by omega), hget_set_self, hget_push_lt _ _ _ _ (by omega), hget_push_one _ _ _ _ rfl]; rfl
  have p11 : hget H11 (n10 + 1) = some ⟨[.int .i64 x, .int .i64 y], 1, false, 43⟩ := by subst hH11; rw [hget_set_self, hget_set_ne _ _ _ _ (by omega), hget_push_one _ _ _ _ rfl]; rfl
  have x9b : HX n9 h9 H11 := x9a.trans xab m10
  have b11 : hget H11 nx = some ⟨[.int .i64 q, vC], 1, false, 24⟩ := by rw [x9b _ (by omega)]; exact b9
  have d11 : hget H11 n2 = some ⟨[.int .i64 q, u], 1, false, 24⟩ := by rw [x9b _ (by omega)]; exact d9
  have t11 := t9.hx x9b (nx' := n10 + 1 + 1) (by omega)
  have u11 := u9.hx x9b (nx' := n10 + 1 + 1) (by omega)
  have C11 := hC.hx xab (nx' := n10 + 1 + 1) (by omega)
  obtain ⟨vm', h12, n12, c12, xbc, m12, hM'⟩ := rmend_w w n t11 q hq (p := nx) (by omega)
  obtain ⟨q2, u2', ss2, V2, x2, y2, cc, rfl, hC2, hS2⟩ := hM'.is
  rw [hS] at hS2
  simp only [Prod.mk.injEq] at hS2
  obtain ⟨rfl, rfl, rfl, rfl, rfl⟩ := hS2
  have o5 := hC2.v.one
  have i12 := fun xs s => imp (n + 5) 13 xs s w rfl
  have d12 : hget h12 n2 = some ⟨[.int .i64 q, u], 1, false, 24⟩ := by rw [xbc _ (by omega)]; exact d11
  have b12 : hget h12 nx = some ⟨[.int .i64 q, vC], 1, false, 24⟩ := by rw [xbc _ (by omega)]; exact b11
  obtain ⟨H13, hH13⟩ : ∃ H13, H13 = hset (hset (hpush (hpush h12 n12 [⟨[.int .i64 0, .slice none 0 0], 1, false, 24⟩]) (n12 + 1) [⟨(List.replicate 2 (0 : Int)).map vI, 1, false, 43⟩]) n12 ⟨[.int .i64 q', u2'], 1, false, 24⟩) (n12 + 1) ⟨[.int .i64 x, .int .i64 y], 1, false, 43⟩ := ⟨_, rfl⟩
  have xcd : HX n12 h12 H13 := by subst hH13; exact ((((HX.refl _ _).push _ (Nat.le_refl _)).push _ (by omega)).set _ (Nat.le_refl _)).set _ (by omega)
  have l13' : hget H13 n12 = some ⟨[.int .i64 q', u2'], 1, false, 24⟩ := by subst hH13; rw [hget_set_ne _ _ _ _ (by omega), hget_set_self, hget_push_lt _ _ _ _ (by omega), hget_push_one _ _ _ _ rfl]; rfl
  have p13' : hget H13 (n12 + 1) = some ⟨[.int .i64 x, .int .i64 y], 1, false, 43⟩ := by subst hH13; rw [hget_set_self, hget_set_ne _ _ _ _ (by omega), hget_push_one _ _ _ _ rfl]; rfl
  have xbd : HX (n10 + 1 + 1) H11 H13 := xbc.trans xcd m12
  have b13 : hget H13 nx = some ⟨[.int .i64 q, vC], 1, false, 24⟩ := by rw [xbd _ (by omega)]; exact b11
  have d13 : hget H13 n2 = some ⟨[.int .i64 q, u], 1, false, 24⟩ := by rw [xbd _ (by omega)]; exact d11
  have l13 : hget H13 n10 = some ⟨[.int .i64 q', u'], 1, false, 24⟩ := by rw [xbd _ (by omega)]; exact l11
  have p13 : hget H13 (n10 + 1) = some ⟨[.int .i64 x, .int .i64 y], 1, false, 43⟩ := by rw [xbd _ (by omega)]; exact p11
  have t13 := t11.hx xbd (nx' := n12 + 1 + 1) (by omega)
  have u13 := u11.hx xbd (nx' := n12 + 1 + 1) (by omega)
  have C13 := C11.hx xbd (nx' := n12 + 1 + 1) (by omega)
  have D13 := hC2.hx xcd (nx' := n12 + 1 + 1) (by omega)
  have s4 := text_p w (n + 1) (p := nx) u13 q hq
  have s5 := rtext_p w (n + 4) (p := nx) t13 q hq
  have s6 := same18_p w (n + 5) (p := nx) q' C13 D13
  have s7 := same18_p w (n + 5) (p := nx) q u13 t13
  repeat' (first | (simp (disch := first | omega | assumption | (exact id (by with_unfolding_all rfl)) | ((refine all_cons _ _ (by first | assumption | exact id (by with_unfolding_all rfl)) ?_); (repeat' (first | exact List.all_nil | refine all_cons _ _ (by first | assumption | exact id (by with_unfolding_all rfl)) ?_)); done) |  exact callP_old _ _ _ _ _ | exact one_int _ _ | exact one_bool _ | exact one_string _ | exact one_slice _ _ _ | exact one_pointer _ | exact hget_push_one _ _ _ _ (by omega) | (simp only [List.length_map, List.length_set, List.length_replicate, List.length_cons, List.length_nil]; omega) | (rw [hget_push_lt _ _ _ _ (by omega)]; first | assumption | exact hget_push_one _ _ _ _ (by omega))) only [WW0, WW1, WW2, WW3, WW4, WW5, WW6, WW7, Option.map_some, args0, slotsL, opdsA, List.cons_append, List.nil_append, List.map_cons, List.map_nil, List.append_nil, Option.toList_some, Option.toList_none, Nat.reduceEqDiff, Nat.reduceLT, Nat.reduceAdd, Nat.reduceBEq, Int.reduceAdd, Int.reduceSub, Int.reduceLT, Int.reduceLE, Int.reduceEq, Int.reduceNeg, ↓reduceIte, if_true, if_false, Bool.false_eq_true, Bool.not_true, Bool.not_false, List.length_cons, List.length_nil, List.length_singleton, reduceCtorEq, Int.toNat_natCast, Nat.zero_add, Nat.add_zero, Int.add_sub_cancel, eq_self, List.drop_zero, List.drop_succ_cons, Option.some.injEq, Prod.mk.injEq, mkFnA, Bool.and_true, Bool.true_and, Bool.and_self, c3, zchain, ← hH1, great_wp w _ t1' q, hgr, b1, i2, c2]) | (refine does_goI_dec (fun _ => ?_) (fun _ => ?_)) | (refine does_goG_dec (fun _ => ?_) (fun _ => ?_)) | (refine does_goI (fun _ => ?_) (fun _ => ?_)) | (refine does_goG (fun _ => ?_) (fun _ => ?_)))
  all_goals rw [← hH3]
  all_goals repeat' (first | (simp (disch := first | omega | assumption | (exact id (by with_unfolding_all rfl)) | ((refine all_cons _ _ (by first | assumption | exact id (by with_unfolding_all rfl)) ?_); (repeat' (first | exact List.all_nil | refine all_cons _ _ (by first | assumption | exact id (by with_unfolding_all rfl)) ?_)); done) |  exact callP_old _ _ _ _ _ | exact one_int _ _ | exact one_bool _ | exact one_string _ | exact one_slice _ _ _ | exact one_pointer _ | exact hget_push_one _ _ _ _ (by omega) | (simp only [List.length_map, List.length_set, List.length_replicate, List.length_cons, List.length_nil]; omega) | (rw [hget_push_lt _ _ _ _ (by omega)]; first | assumption | exact hget_push_one _ _ _ _ (by omega))) only [WW0, WW1, WW2, WW3, WW4, WW5, WW6, WW7, Option.map_some, args0, slotsL, opdsA, List.cons_append, List.nil_append, List.map_cons, List.map_nil, List.append_nil, Option.toList_some, Option.toList_none, Nat.reduceEqDiff, Nat.reduceLT, Nat.reduceAdd, Nat.reduceBEq, Int.reduceAdd, Int.reduceSub, Int.reduceLT, Int.reduceLE, Int.reduceEq, Int.reduceNeg, ↓reduceIte, if_true, if_false, Bool.false_eq_true, Bool.not_true, Bool.not_false, List.length_cons, List.length_nil, List.length_singleton, reduceCtorEq, Int.toNat_natCast, Nat.zero_add, Nat.add_zero, Int.add_sub_cancel, eq_self, List.drop_zero, List.drop_succ_cons, Option.some.injEq, Prod.mk.injEq, mkFnA, Bool.and_true, Bool.true_and, Bool.and_self, zchain, zgrid, b3, d3, b4, d4, i4, c4]) | (refine does_goI_dec (fun _ => ?_) (fun _ => ?_)) | (refine does_goG_dec (fun _ => ?_) (fun _ => ?_)) | (refine does_goI (fun _ => ?_) (fun _ => ?_)) | (refine does_goG (fun _ => ?_) (fun _ => ?_)))
  all_goals rw [← hH5]
  all_goals repeat' (first | (simp (disch := first | omega | assumption | (exact id (by with_unfolding_all rfl)) | ((refine all_cons _ _ (by first | assumption | exact id (by with_unfolding_all rfl)) ?_); (repeat' (first | exact List.all_nil | refine all_cons _ _ (by first | assumption | exact id (by with_unfolding_all rfl)) ?_)); done) |  exact callP_old _ _ _ _ _ | exact one_int _ _ | exact one_bool _ | exact one_string _ | exact one_slice _ _ _ | exact one_pointer _ | exact hget_push_one _ _ _ _ (by omega) | (simp only [List.length_map, List.length_set, List.length_replicate, List.length_cons, List.length_nil]; omega) | (rw [hget_push_lt _ _ _ _ (by omega)]; first | assumption | exact hget_push_one _ _ _ _ (by omega))) only [WW0, WW1, WW2, WW3, WW4, WW5, WW6, WW7, Option.map_some, args0, slotsL, opdsA, List.cons_append, List.nil_append, List.map_cons, List.map_nil, List.append_nil, Option.toList_some, Option.toList_none, Nat.reduceEqDiff, Nat.reduceLT, Nat.reduceAdd, Nat.reduceBEq, Int.reduceAdd, Int.reduceSub, Int.reduceLT, Int.reduceLE, Int.reduceEq, Int.reduceNeg, ↓reduceIte, if_true, if_false, Bool.false_eq_true, Bool.not_true, Bool.not_false, List.length_cons, List.length_nil, List.length_singleton, reduceCtorEq, Int.toNat_natCast, Nat.zero_add, Nat.add_zero, Int.add_sub_cancel, eq_self, List.drop_zero, List.drop_succ_cons, Option.some.injEq, Prod.mk.injEq, mkFnA, Bool.and_true, Bool.true_and, Bool.and_self, zchain, zgrid, b5, d5, b6, d6, i6, c6]) | (refine does_goI_dec (fun _ => ?_) (fun _ => ?_)) | (refine does_goG_dec (fun _ => ?_) (fun _ => ?_)) | (refine does_goI (fun _ => ?_) (fun _ => ?_)) | (refine does_goG (fun _ => ?_) (fun _ => ?_)))
  all_goals rw [← hH7]
  all_goals repeat' (first | (simp (disch := first | omega | assumption | (exact id (by with_unfolding_all rfl)) | ((refine all_cons _ _ (by first | assumption | exact id (by with_unfolding_all rfl)) ?_); (repeat' (first | exact List.all_nil | refine all_cons _ _ (by first | assumption | exact id (by with_unfolding_all rfl)) ?_)); done) |  exact callP_old _ _ _ _ _ | exact one_int _ _ | exact one_bool _ | exact one_string _ | exact one_slice _ _ _ | exact one_pointer _ | exact hget_push_one _ _ _ _ (by omega) | (simp only [List.length_map, List.length_set, List.length_replicate, List.length_cons, List.length_nil]; omega) | (rw [hget_push_lt _ _ _ _ (by omega)]; first | assumption | exact hget_push_one _ _ _ _ (by omega))) only [WW0, WW1, WW2, WW3, WW4, WW5, WW6, WW7, Option.map_some, args0, slotsL, opdsA, List.cons_append, List.nil_append, List.map_cons, List.map_nil, List.append_nil, Option.toList_some, Option.toList_none, Nat.reduceEqDiff, Nat.reduceLT, Nat.reduceAdd, Nat.reduceBEq, Int.reduceAdd, Int.reduceSub, Int.reduceLT, Int.reduceLE, Int.reduceEq, Int.reduceNeg, ↓reduceIte, if_true, if_false, Bool.false_eq_true, Bool.not_true, Bool.not_false, List.length_cons, List.length_nil, List.length_singleton, reduceCtorEq, Int.toNat_natCast, Nat.zero_add, Nat.add_zero, Int.add_sub_cancel, eq_self, List.drop_zero, List.drop_succ_cons, Option.some.injEq, Prod.mk.injEq, mkFnA, Bool.and_true, Bool.true_and, Bool.and_self, zchain, zgrid, b7, d7, i8, c8, b8, i9, c9, d9, b9, f9, k9, s1, s2, s3]) | (refine does_goI_dec (fun _ => ?_) (fun _ => ?_)) | (refine does_goG_dec (fun _ => ?_) (fun _ => ?_)) | (refine does_goI (fun _ => ?_) (fun _ => ?_)) | (refine does_goG (fun _ => ?_) (fun _ => ?_)))
  all_goals repeat' (first | (simp (disch := first | omega | assumption | (exact id (by with_unfolding_all rfl)) | ((refine all_cons _ _ (by first | assumption | exact id (by with_unfolding_all rfl)) ?_); (repeat' (first | exact List.all_nil | refine all_cons _ _ (by first | assumption | exact id (by with_unfolding_all rfl)) ?_)); done) |  exact callP_old _ _ _ _ _ | exact one_int _ _ | exact one_bool _ | exact one_string _ | exact one_slice _ _ _ | exact one_pointer _ | exact hget_push_one _ _ _ _ (by omega) | (simp only [List.length_map, List.length_set, List.length_replicate, List.length_cons, List.length_nil]; omega) | (rw [hget_push_lt _ _ _ _ (by omega)]; first | assumption | exact hget_push_one _ _ _ _ (by omega))) only [WW0, WW1, WW2, WW3, WW4, WW5, WW6, WW7, Option.map_some, args0, slotsL, opdsA, List.cons_append, List.nil_append, List.map_cons, List.map_nil, List.append_nil, Option.toList_some, Option.toList_none, Nat.reduceEqDiff, Nat.reduceLT, Nat.reduceAdd, Nat.reduceBEq, Int.reduceAdd, Int.reduceSub, Int.reduceLT, Int.reduceLE, Int.reduceEq, Int.reduceNeg, ↓reduceIte, if_true, if_false, Bool.false_eq_true, Bool.not_true, Bool.not_false, List.length_cons, List.length_nil, List.length_singleton, reduceCtorEq, Int.toNat_natCast, Nat.zero_add, Nat.add_zero, Int.add_sub_cancel, eq_self, List.drop_zero, List.drop_succ_cons, Option.some.injEq, Prod.mk.injEq, mkFnA, Bool.and_true, Bool.true_and, Bool.and_self, zchain, zgrid, b9, d9, i10, c10, b10]) | (refine does_goI_dec (fun _ => ?_) (fun _ => ?_)) | (refine does_goG_dec (fun _ => ?_) (fun _ => ?_)) | (refine does_goI (fun _ => ?_) (fun _ => ?_)) | (refine does_goG (fun _ => ?_) (fun _ => ?_)))
  all_goals rw [← hH11]
  all_goals repeat' (first | (simp (disch := first | omega | assumption | (exact id (by with_unfolding_all rfl)) | ((refine all_cons _ _ (by first | assumption | exact id (by with_unfolding_all rfl)) ?_); (repeat' (first | exact List.all_nil | refine all_cons _ _ (by first | assumption | exact id (by with_unfolding_all rfl)) ?_)); done) |  exact callP_old _ _ _ _ _ | exact one_int _ _ | exact one_bool _ | exact one_string _ | exact one_slice _ _ _ | exact one_pointer _ | exact hget_push_one _ _ _ _ (by omega) | (simp only [List.length_map, List.length_set, List.length_replicate, List.length_cons, List.length_nil]; omega) | (rw [hget_push_lt _ _ _ _ (by omega)]; first | assumption | exact hget_push_one _ _ _ _ (by omega))) only [WW0, WW1, WW2, WW3, WW4, WW5, WW6, WW7, Option.map_some, args0, slotsL, opdsA, List.cons_append, List.nil_append, List.map_cons, List.map_nil, List.append_nil, Option.toList_some, Option.toList_none, Nat.reduceEqDiff, Nat.reduceLT, Nat.reduceAdd, Nat.reduceBEq, Int.reduceAdd, Int.reduceSub, Int.reduceLT, Int.reduceLE, Int.reduceEq, Int.reduceNeg, ↓reduceIte, if_true, if_false, Bool.false_eq_true, Bool.not_true, Bool.not_false, List.length_cons, List.length_nil, List.length_singleton, reduceCtorEq, Int.toNat_natCast, Nat.zero_add, Nat.add_zero, Int.add_sub_cancel, eq_self, List.drop_zero, List.drop_succ_cons, Option.some.injEq, Prod.mk.injEq, mkFnA, Bool.and_true, Bool.true_and, Bool.and_self, zchain, zgrid, b11, d11, i12, c12, b12, d12]) | (refine does_goI_dec (fun _ => ?_) (fun _ => ?_)) | (refine does_goG_dec (fun _ => ?_) (fun _ => ?_)) | (refine does_goI (fun _ => ?_) (fun _ => ?_)) | (refine does_goG (fun _ => ?_) (fun _ => ?_)))
  all_goals rw [← hH13]
  all_goals repeat' (first | (simp (disch := first | omega | assumption | (exact id (by with_unfolding_all rfl)) | ((refine all_cons _ _ (by first | assumption | exact id (by with_unfolding_all rfl)) ?_); (repeat' (first | exact List.all_nil | refine all_cons _ _ (by first | assumption | exact id (by with_unfolding_all rfl)) ?_)); done) |  exact callP_old _ _ _ _ _ | exact one_int _ _ | exact one_bool _ | exact one_string _ | exact one_slice _ _ _ | exact one_pointer _ | exact hget_push_one _ _ _ _ (by omega) | (simp only [List.length_map, List.length_set, List.length_replicate, List.length_cons, List.length_nil]; omega) | (rw [hget_push_lt _ _ _ _ (by omega)]; first | assumption | exact hget_push_one _ _ _ _ (by omega))) only [WW0, WW1, WW2, WW3, WW4, WW5, WW6, WW7, Option.map_some, args0, slotsL, opdsA, List.cons_append, List.nil_append, List.map_cons, List.map_nil, List.append_nil, Option.toList_some, Option.toList_none, Nat.reduceEqDiff, Nat.reduceLT, Nat.reduceAdd, Nat.reduceBEq, Int.reduceAdd, Int.reduceSub, Int.reduceLT, Int.reduceLE, Int.reduceEq, Int.reduceNeg, ↓reduceIte, if_true, if_false, Bool.false_eq_true, Bool.not_true, Bool.not_false, List.length_cons, List.length_nil, List.length_singleton, reduceCtorEq, Int.toNat_natCast, Nat.zero_add, Nat.add_zero, Int.add_sub_cancel, eq_self, List.drop_zero, List.drop_succ_cons, Option.some.injEq, Prod.mk.injEq, mkFnA, Bool.and_true, Bool.true_and, Bool.and_self, zchain, b13, d13, l13, p13, l13', p13', s4, s5, s6, s7, eqPoint, beq_self_eq_true]) | (refine does_goI_dec (fun _ => ?_) (fun _ => ?_)) | (refine does_goG_dec (fun _ => ?_) (fun _ => ?_)) | (refine does_goI (fun _ => ?_) (fun _ => ?_)) | (refine does_goG (fun _ => ?_) (fun _ => ?_)))
end
end Go.Proofs.Ytepdkmdcainddaa
namespace Go.Proofs.Ytepdkmdcainddaa
open Go Go.Itp
open Go.ChangeShapes Go.WideShapes Go.ChangeAt Go.RowKit
set_option linter.unusedVariables false

theorem own : ownKnob Try.prog.godebug = none := by kernel_rfl
theorem mixed : Try.prog.follows .mixedOrders = true := by kernel_rfl
theorem thePrims (w : World) : PrimsOK Try.prog ((fun _ : World => primsOf prims0) w) w := primsOf_ok prims0 prims_all w
theorem reach_lt : reachBytes ≤ 140737488351232 := by decide
/-- what a law's run returns, its call returns -/
theorem law_of {W : World} {f : FuncId} {af : AFun} (hf : fns f = some af) {xs : List Value} (hxs : idsL 0 xs = []) (n : Nat) {v : Value} {s' : St} (hb : body (EN W n) af xs St.empty = some (v, s')) (hv : ids 0 v = []) :
    Calls Try.prog f xs.toArray W fun e w' => e = .returned v ∧ Below W.heap.size W w' :=
  law_ok (prims := fun _ => primsOf prims0) mixed fns_ok thePrims hf W hxs n hb hv
/-- an argument that is a chain -/
theorem open_chain {H : Type} {enc : TypeId × Value → H} {W : World} {b : Nat} {held : Bool} {v : Value} {d : DataW H} {ps : List MemPlace} (hv : Value.okWide Try.prog W .any b 24 v) (h : DataW.Trod enc Try.prog W 0 (fun _ => true) held 24 v d ps)
    (hsz : ∀ n ∈ d.weights Try.prog 24, n ≤ reachBytes) :
    ∃ (q : Int) (vC : Value) (rs : List Value) (V : List (List Bool)), v = .agg [.int .i64 q, vC].toArray ∧ (∀ h, CW W h 0 vC rs V) ∧ ids 0 v = [] ∧ (-9223372036854775808 ≤ q ∧ q ≤ 9223372036854775807) := by
  obtain ⟨n, a0, a1, y0, y1, rfl, e0, e1, h0, h1, w0, w1⟩ := open_two Try.underlying24 rfl rfl (by kernel_rfl) (by kernel_rfl) (by kernel_rfl) hv h hsz
  obtain ⟨q, h2, _, h3⟩ := DataW.trod_int Try.underlying3 h0
  simp only [List.cons.injEq, and_true] at h2
  subst h2
  obtain ⟨rs, V, v1, v2, v3, v4, v5⟩ := rd_rows_bool Try.underlying22 Try.underlying27 Try.underlying4 (by kernel_rfl) (by rw [show Try.prog.bytesOf 27 = 24 by kernel_rfl]; decide) (by kernel_rfl) (by rw [show Try.prog.bytesOf 4 = 1 by kernel_rfl]; decide) h1 w1
  rw [show Try.prog.bytesOf 27 = 24 by kernel_rfl] at v4
  rw [show Try.prog.bytesOf 4 = 1 by kernel_rfl] at v5
  rw [e1] at v1 v2
  have hr := reach_lt
  refine ⟨q, a1, rs, V, rfl, fun h => ⟨v1 h, v3, fun k hk => (v5 k hk).1 h, by omega, fun k hk => by have := (v5 k hk).2.1; omega, by omega, fun k hk => by have := (v5 k hk).2.2; omega⟩, ?_, wf64 h3⟩
  rw [ids_agg, idsL_cons, idsL_cons, abs_ids e1 v2 (trod_is_slice Try.underlying22 h1)]
  rfl

set_option maxRecDepth 100000 in
theorem chains_lifted (os : Os) (started : os.Started) (H : Type) (enc : TypeId × Value → H) :
    ReturnsInHanded {} Try.checked os 3 .any (Rows.pegChainsSpec.pre6 enc Try.prog Try.f3 Rows.pegChainsRow.domain false) (Rows.pegChainsSpec.post enc Try.prog Try.f3 false true false false) := by
  refine returnsInHanded_of_change_sized (C := Try.checked) own started (by kernel_rfl) Try.func3
    (ChangeSpec.witness6 (enc := enc) (C := Try.checked) false ⟨#[], #[.agg #[.int .i64 0, .slice none 0 0]], []⟩ 8 (by kernel_rfl) (by kernel_rfl) (by kernel_rfl) (by kernel_rfl)) ?_
  intro W base args ds gs before hval0 hW _ hsz0 _
  have hsz : (DataW.weightsEach Try.prog (Try.f3.params.toList ++ Rows.pegChainsSpec.plain.varTypes Try.prog) (ds ++ gs)).all (· ≤ reachBytes) = true := hsz0
  have hval : ∀ (j : Nat) t v, Try.f3.params[j]? = some t → args[j]? = some v → Value.okWide Try.prog W .any base t v := hval0
  have hW' := hW
  obtain ⟨p, q, hA0, hV, rfl, hfz, hnd⟩ := hW
  have hA : DataW.TrodAll enc Try.prog W 0 (fun _ => true) true Try.f3.params.toList args.toList ds p := hA0
  rw [Try.params3] at hA hval hsz
  obtain ⟨v0, vs0, d0, ds0, p0, q0, hargs, rfl, rfl, h0, r0⟩ := trodAll_cons hA
  obtain ⟨rfl, rfl, rfl⟩ := trodAll_nil r0
  obtain rfl : args = #[v0] := by cases args; simp_all
  obtain ⟨z, vC, rs, V, rfl, ht, hi0, hz⟩ := open_chain (hval 0 24 v0 rfl rfl) h0 (weights_at (j := 0) hsz rfl rfl)
  obtain ⟨r, s', hbody, rfl⟩ := chains_law W 0 [] 0 (ht []) z hz
  have hc3 : fns 3 = some c3 := rfl
  have hids : idsL 0 [Value.agg [.int .i64 z, vC].toArray] = [] := by rw [idsL_cons, hi0]; rfl
  have hv : ids 0 (.bool true) = [] := rfl
  refine (law_of hc3 hids _ hbody hv).mono fun e W' ⟨he, hbe⟩ => ?_
  exact ⟨_, he, law_post hW' rfl rfl (by kernel_rfl) (by kernel_rfl) Try.underlying4 hbe⟩
theorem chains_over : Rows.pegChainsRow.holds Try.pinned (OpenSpec.ofChange Rows.pegChainsSpec) :=
  OpenClaim.holds_of_wide 3 Try.f3 rfl rfl rfl rfl rfl rfl rfl ⟨rfl, rfl, rfl, rfl, rfl⟩ rfl rfl rfl rfl rfl (by kernel_rfl) Try.func3 (by kernel_rfl)
    (of_decide_eq_true (by kernel_rfl)) (by unfold Func.isWrapper; first | (rw [if_pos (by decide +kernel)]; kernel_rfl) | (rw [if_neg (by decide +kernel)]; exact ⟨rfl, rfl⟩))
    (fun os started H enc _ => chains_lifted os started H enc)
/-- the statement -/
theorem chains_holds : Rows.PegChainsSaid := chains_over
#print axioms chains_holds
end Go.Proofs.Ytepdkmdcainddaa
