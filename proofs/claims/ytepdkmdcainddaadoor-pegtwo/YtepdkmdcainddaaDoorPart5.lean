/- What is proved: the law PegTwo returns true for every input. Conditions: none beyond the card's own.
   Texts: P18Db, P18Dc, P18De, P18Dg, P18Dh, P18Di, P18Dj, P18Dk, P18Dl, P18Dm, P18Dn, P18Do, P18Dp.
-/
import Derived.Test.YtepdkmdcainddaaDoorPart4
namespace Go.Proofs.YtepdkmdcainddaaDoor
open Go Go.Itp
set_option linter.unusedSimpArgs false
set_option linter.unusedVariables false
set_option maxRecDepth 100000
set_option maxHeartbeats 1000000
attribute [local irreducible] Does

/-- the first place where a predicate holds, or -1 -/
def firstP (pr : Nat → Bool) : Nat → Int
  | 0 => -1
  | k + 1 => if 0 ≤ firstP pr k then firstP pr k else if pr k then k else -1
theorem firstP_none {pr : Nat → Bool} : ∀ k, (∀ j, j < k → ¬ pr j = true) → firstP pr k = -1
  | 0, _ => rfl
  | k + 1, h => by
    simp only [firstP]
    rw [firstP_none k (fun j hj => h j (by omega)), if_neg (by omega), if_neg (h k (by omega))]
theorem firstP_some {pr : Nat → Bool} {i : Nat} (hi : pr i = true) (h : ∀ j, j < i → ¬ pr j = true) : ∀ k, i < k → firstP pr k = i
  | 0, h => by omega
  | k + 1, hk => by
    simp only [firstP]
    by_cases e : i = k
    · subst e; rw [firstP_none i h, if_neg (by omega), if_pos hi]
    · rw [firstP_some hi h k (by omega), if_pos (by omega)]
theorem firstP_iff (pr : Nat → Bool) : ∀ k, 0 ≤ firstP pr k ↔ ∃ j, j < k ∧ pr j = true
  | 0 => by simp [firstP]
  | k + 1 => by
    have ih := firstP_iff pr k
    simp only [firstP]
    by_cases h0 : 0 ≤ firstP pr k
    · rw [if_pos h0]
      obtain ⟨j, h1, h2⟩ := ih.1 h0
      exact ⟨fun _ => ⟨j, by omega, h2⟩, fun _ => h0⟩
    · rw [if_neg h0]
      by_cases h1 : pr k = true
      · rw [if_pos h1]; exact ⟨fun _ => ⟨k, by omega, h1⟩, fun _ => by omega⟩
      · rw [if_neg h1]
        refine ⟨fun h => by omega, ?_⟩
        rintro ⟨j, h2, h3⟩
        by_cases e : j = k
        · subst e; exact (h1 h3).elim
        · exact (h0 (ih.2 ⟨j, by omega, h3⟩)).elim
section
variable (w : World) (n : Nat) {vC : Value} {rs : List Value} {V : List (List Bool)} {h : Heap} {nx p : Nat}
theorem indexf_p {f : FuncId} {caps : List Value} (hr : Rd (oldOf w) h (fun x : Value => x) vC rs) (hm : rs.length ≤ 1000000) (pr : Nat → Bool) (hc : ∀ i, i < rs.length → (EN w n).pcall f (rs[i]! :: caps) ⟨h, nx, nx⟩ = some (.bool (pr i), [])) :
    (EN w (n + 1)).pcall 81 [vC, .func (.func f) #[] caps.toArray] ⟨h, nx, p⟩ = some (.int .i64 (firstP pr rs.length), []) := by
  refine pcall_eq rfl rfl (Nat.le_of_ble_eq_true rfl) ?_
  repeat' (first | (simp (disch := first | omega | assumption |  exact callP_old _ _ _ _ _ | exact one_int _ _ | exact one_bool _ | exact one_string _ | exact one_slice _ _ _ | exact one_pointer _ | exact hget_push_one _ _ _ _ (by omega) | (simp only [List.length_map, List.length_set, List.length_replicate, List.length_cons, List.length_nil]; omega) | (rw [hget_push_lt _ _ _ _ (by omega)]; first | assumption | exact hget_push_one _ _ _ _ (by omega))) only [WW0, WW1, WW2, WW3, WW4, WW5, WW6, WW7, Option.map_some, args0, slotsL, opdsA, List.cons_append, List.nil_append, List.map_cons, List.map_nil, List.append_nil, Option.toList_some, Option.toList_none, Nat.reduceEqDiff, Nat.reduceLT, Nat.reduceAdd, Nat.reduceBEq, Int.reduceAdd, Int.reduceSub, Int.reduceLT, Int.reduceLE, Int.reduceEq, Int.reduceNeg, ↓reduceIte, if_true, if_false, Bool.false_eq_true, Bool.not_true, Bool.not_false, List.length_cons, List.length_nil, List.length_singleton, reduceCtorEq, Int.toNat_natCast, Nat.zero_add, Nat.add_zero, Int.add_sub_cancel, eq_self, List.drop_zero, List.drop_succ_cons, Option.some.injEq, Prod.mk.injEq, mkFnA, Bool.and_true, Bool.true_and, Bool.and_self, hr.len]) | (refine does_goI_dec (fun _ => ?_) (fun _ => ?_)) | (refine does_goG_dec (fun _ => ?_) (fun _ => ?_)) | (refine does_goI (fun _ => ?_) (fun _ => ?_)) | (refine does_goG (fun _ => ?_) (fun _ => ?_)))
  refine does_while (fun m fr t => ∃ k : Nat, m = rs.length - k ∧ k ≤ rs.length ∧ fr = [(0, vC), (1, .func (.func f) #[] caps.toArray), (7, .int .i64 rs.length), (8, .int .i64 k)] ∧ t = ⟨h, nx, nx⟩ ∧ ∀ j, j < k → ¬ pr j = true) (m := rs.length) ?_ ?_ ?_
  · exact ⟨0, by omega, by omega, rfl, rfl, by omega⟩
  · simp (disch := first | omega | assumption |  exact callP_old _ _ _ _ _ | exact one_int _ _ | exact one_bool _ | exact one_string _ | exact one_slice _ _ _ | exact one_pointer _ | exact hget_push_one _ _ _ _ (by omega) | (simp only [List.length_map, List.length_set, List.length_replicate, List.length_cons, List.length_nil]; omega) | (rw [hget_push_lt _ _ _ _ (by omega)]; first | assumption | exact hget_push_one _ _ _ _ (by omega))) only [WW0, WW1, WW2, WW3, WW4, WW5, WW6, WW7, Option.map_some, args0, slotsL, opdsA, List.cons_append, List.nil_append, List.map_cons, List.map_nil, List.append_nil, Option.toList_some, Option.toList_none, Nat.reduceEqDiff, Nat.reduceLT, Nat.reduceAdd, Nat.reduceBEq, Int.reduceAdd, Int.reduceSub, Int.reduceLT, Int.reduceLE, Int.reduceEq, Int.reduceNeg, ↓reduceIte, if_true, if_false, Bool.false_eq_true, Bool.not_true, Bool.not_false, List.length_cons, List.length_nil, List.length_singleton, reduceCtorEq, Int.toNat_natCast, Nat.zero_add, Nat.add_zero, Int.add_sub_cancel, eq_self, List.drop_zero, List.drop_succ_cons, Option.some.injEq, Prod.mk.injEq, mkFnA, Bool.and_true, Bool.true_and, Bool.and_self]
    unfold many; omega
  · rintro m fr tt ⟨k, rfl, hk, rfl, rfl, hj⟩
    by_cases hlt : k < rs.length
    · cases hp : pr k
      · have hck := hc k hlt
        rw [hp] at hck
        repeat' (first | (simp (disch := first | omega | assumption |  exact callP_old _ _ _ _ _ | exact one_int _ _ | exact one_bool _ | exact one_string _ | exact one_slice _ _ _ | exact one_pointer _ | exact hget_push_one _ _ _ _ (by omega) | (simp only [List.length_map, List.length_set, List.length_replicate, List.length_cons, List.length_nil]; omega) | (rw [hget_push_lt _ _ _ _ (by omega)]; first | assumption | exact hget_push_one _ _ _ _ (by omega))) only [WW0, WW1, WW2, WW3, WW4, WW5, WW6, WW7, Option.map_some, args0, slotsL, opdsA, List.cons_append, List.nil_append, List.map_cons, List.map_nil, List.append_nil, Option.toList_some, Option.toList_none, Nat.reduceEqDiff, Nat.reduceLT, Nat.reduceAdd, Nat.reduceBEq, Int.reduceAdd, Int.reduceSub, Int.reduceLT, Int.reduceLE, Int.reduceEq, Int.reduceNeg, ↓reduceIte, if_true, if_false, Bool.false_eq_true, Bool.not_true, Bool.not_false, List.length_cons, List.length_nil, List.length_singleton, reduceCtorEq, Int.toNat_natCast, Nat.zero_add, Nat.add_zero, Int.add_sub_cancel, eq_self, List.drop_zero, List.drop_succ_cons, Option.some.injEq, Prod.mk.injEq, mkFnA, Bool.and_true, Bool.true_and, Bool.and_self, c81l0, hr.idx, hr.load, hck]) | (refine does_goI_dec (fun _ => ?_) (fun _ => ?_)) | (refine does_goG_dec (fun _ => ?_) (fun _ => ?_)) | (refine does_goI (fun _ => ?_) (fun _ => ?_)) | (refine does_goG (fun _ => ?_) (fun _ => ?_)))
        refine ⟨_, ?_, k + 1, rfl, hlt, ?_, lt_succ_cases hj (by simp [hp])⟩
        · omega
        · simp
      · have hck := hc k hlt
        rw [hp] at hck
        repeat' (first | (simp (disch := first | omega | assumption |  exact callP_old _ _ _ _ _ | exact one_int _ _ | exact one_bool _ | exact one_string _ | exact one_slice _ _ _ | exact one_pointer _ | exact hget_push_one _ _ _ _ (by omega) | (simp only [List.length_map, List.length_set, List.length_replicate, List.length_cons, List.length_nil]; omega) | (rw [hget_push_lt _ _ _ _ (by omega)]; first | assumption | exact hget_push_one _ _ _ _ (by omega))) only [WW0, WW1, WW2, WW3, WW4, WW5, WW6, WW7, Option.map_some, args0, slotsL, opdsA, List.cons_append, List.nil_append, List.map_cons, List.map_nil, List.append_nil, Option.toList_some, Option.toList_none, Nat.reduceEqDiff, Nat.reduceLT, Nat.reduceAdd, Nat.reduceBEq, Int.reduceAdd, Int.reduceSub, Int.reduceLT, Int.reduceLE, Int.reduceEq, Int.reduceNeg, ↓reduceIte, if_true, if_false, Bool.false_eq_true, Bool.not_true, Bool.not_false, List.length_cons, List.length_nil, List.length_singleton, reduceCtorEq, Int.toNat_natCast, Nat.zero_add, Nat.add_zero, Int.add_sub_cancel, eq_self, List.drop_zero, List.drop_succ_cons, Option.some.injEq, Prod.mk.injEq, mkFnA, Bool.and_true, Bool.true_and, Bool.and_self, c81l0, hr.idx, hr.load, hck]) | (refine does_goI_dec (fun _ => ?_) (fun _ => ?_)) | (refine does_goG_dec (fun _ => ?_) (fun _ => ?_)) | (refine does_goI (fun _ => ?_) (fun _ => ?_)) | (refine does_goG (fun _ => ?_) (fun _ => ?_)))
        rw [firstP_some hp hj _ hlt]
    · have : k = rs.length := by omega
      subst this
      repeat' (first | (simp (disch := first | omega | assumption |  exact callP_old _ _ _ _ _ | exact one_int _ _ | exact one_bool _ | exact one_string _ | exact one_slice _ _ _ | exact one_pointer _ | exact hget_push_one _ _ _ _ (by omega) | (simp only [List.length_map, List.length_set, List.length_replicate, List.length_cons, List.length_nil]; omega) | (rw [hget_push_lt _ _ _ _ (by omega)]; first | assumption | exact hget_push_one _ _ _ _ (by omega))) only [WW0, WW1, WW2, WW3, WW4, WW5, WW6, WW7, Option.map_some, args0, slotsL, opdsA, List.cons_append, List.nil_append, List.map_cons, List.map_nil, List.append_nil, Option.toList_some, Option.toList_none, Nat.reduceEqDiff, Nat.reduceLT, Nat.reduceAdd, Nat.reduceBEq, Int.reduceAdd, Int.reduceSub, Int.reduceLT, Int.reduceLE, Int.reduceEq, Int.reduceNeg, ↓reduceIte, if_true, if_false, Bool.false_eq_true, Bool.not_true, Bool.not_false, List.length_cons, List.length_nil, List.length_singleton, reduceCtorEq, Int.toNat_natCast, Nat.zero_add, Nat.add_zero, Int.add_sub_cancel, eq_self, List.drop_zero, List.drop_succ_cons, Option.some.injEq, Prod.mk.injEq, mkFnA, Bool.and_true, Bool.true_and, Bool.and_self, c81l0]) | (refine does_goI_dec (fun _ => ?_) (fun _ => ?_)) | (refine does_goG_dec (fun _ => ?_) (fun _ => ?_)) | (refine does_goI (fun _ => ?_) (fun _ => ?_)) | (refine does_goG (fun _ => ?_) (fun _ => ?_)))
      rw [firstP_none _ hj]
theorem firstP_lt (pr : Nat → Bool) (k : Nat) : -1 ≤ firstP pr k ∧ firstP pr k < k := by
  induction k with
  | zero => simp [firstP]
  | succ k ih =>
    simp only [firstP]
    split
    · omega
    · split <;> omega
theorem containsf_p {f : FuncId} {caps : List Value} (hr : Rd (oldOf w) h (fun x : Value => x) vC rs) (hm : rs.length ≤ 1000000) (pr : Nat → Bool) (hc : ∀ i, i < rs.length → (EN w n).pcall f (rs[i]! :: caps) ⟨h, nx, nx⟩ = some (.bool (pr i), [])) :
    (EN w (n + 2)).pcall 65 [vC, .func (.func f) #[] caps.toArray] ⟨h, nx, p⟩ = some (.bool (decide (0 ≤ firstP pr rs.length)), []) := by
  refine pcall_eq rfl rfl (Nat.le_of_ble_eq_true rfl) ?_
  have := firstP_lt pr rs.length
  repeat' (first | (simp (disch := first | omega | assumption |  exact callP_old _ _ _ _ _ | exact one_int _ _ | exact one_bool _ | exact one_string _ | exact one_slice _ _ _ | exact one_pointer _ | exact hget_push_one _ _ _ _ (by omega) | (simp only [List.length_map, List.length_set, List.length_replicate, List.length_cons, List.length_nil]; omega) | (rw [hget_push_lt _ _ _ _ (by omega)]; first | assumption | exact hget_push_one _ _ _ _ (by omega))) only [WW0, WW1, WW2, WW3, WW4, WW5, WW6, WW7, Option.map_some, args0, slotsL, opdsA, List.cons_append, List.nil_append, List.map_cons, List.map_nil, List.append_nil, Option.toList_some, Option.toList_none, Nat.reduceEqDiff, Nat.reduceLT, Nat.reduceAdd, Nat.reduceBEq, Int.reduceAdd, Int.reduceSub, Int.reduceLT, Int.reduceLE, Int.reduceEq, Int.reduceNeg, ↓reduceIte, if_true, if_false, Bool.false_eq_true, Bool.not_true, Bool.not_false, List.length_cons, List.length_nil, List.length_singleton, reduceCtorEq, Int.toNat_natCast, Nat.zero_add, Nat.add_zero, Int.add_sub_cancel, eq_self, List.drop_zero, List.drop_succ_cons, Option.some.injEq, Prod.mk.injEq, mkFnA, Bool.and_true, Bool.true_and, Bool.and_self, indexf_p w n hr hm pr hc]) | (refine does_goI_dec (fun _ => ?_) (fun _ => ?_)) | (refine does_goG_dec (fun _ => ?_) (fun _ => ?_)) | (refine does_goI (fun _ => ?_) (fun _ => ?_)) | (refine does_goG (fun _ => ?_) (fun _ => ?_)))
theorem valid1_p {b : Nat} {q : Int} {t : TypeId} {v : Value} {l : List Bool} (hb : hget h b = some ⟨[.int .i64 q, vC], 1, false, t⟩) (hq : 0 ≤ q ∧ q ≤ 40) (hr : Rd (oldOf w) h Value.bool v l) (hl : l.length ≤ 1000000) :
    (EN w (n + 1)).pcall 66 [v, .pointer (some ⟨b, 0, some 0⟩)] ⟨h, nx, p⟩ = some (.bool (decide (¬ (l.length : Int) = q + 1)), []) := by
  refine pcall_eq rfl rfl (Nat.le_of_ble_eq_true rfl) ?_
  repeat' (first | (simp (disch := first | omega | assumption |  exact callP_old _ _ _ _ _ | exact one_int _ _ | exact one_bool _ | exact one_string _ | exact one_slice _ _ _ | exact one_pointer _ | exact hget_push_one _ _ _ _ (by omega) | (simp only [List.length_map, List.length_set, List.length_replicate, List.length_cons, List.length_nil]; omega) | (rw [hget_push_lt _ _ _ _ (by omega)]; first | assumption | exact hget_push_one _ _ _ _ (by omega))) only [WW0, WW1, WW2, WW3, WW4, WW5, WW6, WW7, Option.map_some, args0, slotsL, opdsA, List.cons_append, List.nil_append, List.map_cons, List.map_nil, List.append_nil, Option.toList_some, Option.toList_none, Nat.reduceEqDiff, Nat.reduceLT, Nat.reduceAdd, Nat.reduceBEq, Int.reduceAdd, Int.reduceSub, Int.reduceLT, Int.reduceLE, Int.reduceEq, Int.reduceNeg, ↓reduceIte, if_true, if_false, Bool.false_eq_true, Bool.not_true, Bool.not_false, List.length_cons, List.length_nil, List.length_singleton, reduceCtorEq, Int.toNat_natCast, Nat.zero_add, Nat.add_zero, Int.add_sub_cancel, eq_self, List.drop_zero, List.drop_succ_cons, Option.some.injEq, Prod.mk.injEq, mkFnA, Bool.and_true, Bool.true_and, Bool.and_self, hr.len, hb]) | (refine does_goI_dec (fun _ => ?_) (fun _ => ?_)) | (refine does_goG_dec (fun _ => ?_) (fun _ => ?_)) | (refine does_goI (fun _ => ?_) (fun _ => ?_)) | (refine does_goG (fun _ => ?_) (fun _ => ?_)))
theorem valid_p (t : CB w h nx vC rs V) (q : Int) (hq : -9223372036854775808 ≤ q ∧ q ≤ 9223372036854775807) :
    (EN w (n + 4)).pcall 52 [.agg [.int .i64 q, vC].toArray] ⟨h, nx, p⟩ = some (.bool (validS q V), []) := by
  refine pcall_eq rfl rfl (Nat.le_of_ble_eq_true rfl) ?_
  have t' := t.push [⟨[.int .i64 q, vC], 1, false, 34⟩] (nx' := nx + 1) (by omega)
  have hlen := t.len
  have hlv := t.lv
  by_cases h1 : q < 1
  · repeat' (first | (simp (disch := first | omega | assumption |  exact callP_old _ _ _ _ _ | exact one_int _ _ | exact one_bool _ | exact one_string _ | exact one_slice _ _ _ | exact one_pointer _ | exact hget_push_one _ _ _ _ (by omega) | (simp only [List.length_map, List.length_set, List.length_replicate, List.length_cons, List.length_nil]; omega) | (rw [hget_push_lt _ _ _ _ (by omega)]; first | assumption | exact hget_push_one _ _ _ _ (by omega))) only [WW0, WW1, WW2, WW3, WW4, WW5, WW6, WW7, Option.map_some, args0, slotsL, opdsA, List.cons_append, List.nil_append, List.map_cons, List.map_nil, List.append_nil, Option.toList_some, Option.toList_none, Nat.reduceEqDiff, Nat.reduceLT, Nat.reduceAdd, Nat.reduceBEq, Int.reduceAdd, Int.reduceSub, Int.reduceLT, Int.reduceLE, Int.reduceEq, Int.reduceNeg, ↓reduceIte, if_true, if_false, Bool.false_eq_true, Bool.not_true, Bool.not_false, List.length_cons, List.length_nil, List.length_singleton, reduceCtorEq, Int.toNat_natCast, Nat.zero_add, Nat.add_zero, Int.add_sub_cancel, eq_self, List.drop_zero, List.drop_succ_cons, Option.some.injEq, Prod.mk.injEq, mkFnA, Bool.and_true, Bool.true_and, Bool.and_self]) | (refine does_goI_dec (fun _ => ?_) (fun _ => ?_)) | (refine does_goG_dec (fun _ => ?_) (fun _ => ?_)) | (refine does_goI (fun _ => ?_) (fun _ => ?_)) | (refine does_goG (fun _ => ?_) (fun _ => ?_)))
    exact (decide_no (by omega)).symm
  by_cases h2 : 40 < q
  · repeat' (first | (simp (disch := first | omega | assumption |  exact callP_old _ _ _ _ _ | exact one_int _ _ | exact one_bool _ | exact one_string _ | exact one_slice _ _ _ | exact one_pointer _ | exact hget_push_one _ _ _ _ (by omega) | (simp only [List.length_map, List.length_set, List.length_replicate, List.length_cons, List.length_nil]; omega) | (rw [hget_push_lt _ _ _ _ (by omega)]; first | assumption | exact hget_push_one _ _ _ _ (by omega))) only [WW0, WW1, WW2, WW3, WW4, WW5, WW6, WW7, Option.map_some, args0, slotsL, opdsA, List.cons_append, List.nil_append, List.map_cons, List.map_nil, List.append_nil, Option.toList_some, Option.toList_none, Nat.reduceEqDiff, Nat.reduceLT, Nat.reduceAdd, Nat.reduceBEq, Int.reduceAdd, Int.reduceSub, Int.reduceLT, Int.reduceLE, Int.reduceEq, Int.reduceNeg, ↓reduceIte, if_true, if_false, Bool.false_eq_true, Bool.not_true, Bool.not_false, List.length_cons, List.length_nil, List.length_singleton, reduceCtorEq, Int.toNat_natCast, Nat.zero_add, Nat.add_zero, Int.add_sub_cancel, eq_self, List.drop_zero, List.drop_succ_cons, Option.some.injEq, Prod.mk.injEq, mkFnA, Bool.and_true, Bool.true_and, Bool.and_self]) | (refine does_goI_dec (fun _ => ?_) (fun _ => ?_)) | (refine does_goG_dec (fun _ => ?_) (fun _ => ?_)) | (refine does_goI (fun _ => ?_) (fun _ => ?_)) | (refine does_goG (fun _ => ?_) (fun _ => ?_)))
    exact (decide_no (by omega)).symm
  by_cases h3 : (rs.length : Int) < 2
  · repeat' (first | (simp (disch := first | omega | assumption |  exact callP_old _ _ _ _ _ | exact one_int _ _ | exact one_bool _ | exact one_string _ | exact one_slice _ _ _ | exact one_pointer _ | exact hget_push_one _ _ _ _ (by omega) | (simp only [List.length_map, List.length_set, List.length_replicate, List.length_cons, List.length_nil]; omega) | (rw [hget_push_lt _ _ _ _ (by omega)]; first | assumption | exact hget_push_one _ _ _ _ (by omega))) only [WW0, WW1, WW2, WW3, WW4, WW5, WW6, WW7, Option.map_some, args0, slotsL, opdsA, List.cons_append, List.nil_append, List.map_cons, List.map_nil, List.append_nil, Option.toList_some, Option.toList_none, Nat.reduceEqDiff, Nat.reduceLT, Nat.reduceAdd, Nat.reduceBEq, Int.reduceAdd, Int.reduceSub, Int.reduceLT, Int.reduceLE, Int.reduceEq, Int.reduceNeg, ↓reduceIte, if_true, if_false, Bool.false_eq_true, Bool.not_true, Bool.not_false, List.length_cons, List.length_nil, List.length_singleton, reduceCtorEq, Int.toNat_natCast, Nat.zero_add, Nat.add_zero, Int.add_sub_cancel, eq_self, List.drop_zero, List.drop_succ_cons, Option.some.injEq, Prod.mk.injEq, mkFnA, Bool.and_true, Bool.true_and, Bool.and_self, t'.v.len]) | (refine does_goI_dec (fun _ => ?_) (fun _ => ?_)) | (refine does_goG_dec (fun _ => ?_) (fun _ => ?_)) | (refine does_goI (fun _ => ?_) (fun _ => ?_)) | (refine does_goG (fun _ => ?_) (fun _ => ?_)))
    exact (decide_no (by omega)).symm
  by_cases h4 : (65 : Int) < rs.length
  · repeat' (first | (simp (disch := first | omega | assumption |  exact callP_old _ _ _ _ _ | exact one_int _ _ | exact one_bool _ | exact one_string _ | exact one_slice _ _ _ | exact one_pointer _ | exact hget_push_one _ _ _ _ (by omega) | (simp only [List.length_map, List.length_set, List.length_replicate, List.length_cons, List.length_nil]; omega) | (rw [hget_push_lt _ _ _ _ (by omega)]; first | assumption | exact hget_push_one _ _ _ _ (by omega))) only [WW0, WW1, WW2, WW3, WW4, WW5, WW6, WW7, Option.map_some, args0, slotsL, opdsA, List.cons_append, List.nil_append, List.map_cons, List.map_nil, List.append_nil, Option.toList_some, Option.toList_none, Nat.reduceEqDiff, Nat.reduceLT, Nat.reduceAdd, Nat.reduceBEq, Int.reduceAdd, Int.reduceSub, Int.reduceLT, Int.reduceLE, Int.reduceEq, Int.reduceNeg, ↓reduceIte, if_true, if_false, Bool.false_eq_true, Bool.not_true, Bool.not_false, List.length_cons, List.length_nil, List.length_singleton, reduceCtorEq, Int.toNat_natCast, Nat.zero_add, Nat.add_zero, Int.add_sub_cancel, eq_self, List.drop_zero, List.drop_succ_cons, Option.some.injEq, Prod.mk.injEq, mkFnA, Bool.and_true, Bool.true_and, Bool.and_self, t'.v.len]) | (refine does_goI_dec (fun _ => ?_) (fun _ => ?_)) | (refine does_goG_dec (fun _ => ?_) (fun _ => ?_)) | (refine does_goI (fun _ => ?_) (fun _ => ?_)) | (refine does_goG (fun _ => ?_) (fun _ => ?_)))
    exact (decide_no (by omega)).symm
  have hc : ∀ i, i < rs.length → (EN w (n + 1)).pcall 66 (rs[i]! :: [.pointer (some ⟨nx, 0, some 0⟩)]) ⟨hpush h nx [⟨[.int .i64 q, vC], 1, false, 34⟩], nx + 1, nx + 1⟩ = some (.bool (decide (¬ (V[i]!.length : Int) = q + 1)), []) := fun i hi =>
    valid1_p w n (hget_push_one _ _ _ _ rfl) (by omega) (t'.r i (by omega)) (t.lr i (by omega))
  repeat' (first | (simp (disch := first | omega | assumption |  exact callP_old _ _ _ _ _ | exact one_int _ _ | exact one_bool _ | exact one_string _ | exact one_slice _ _ _ | exact one_pointer _ | exact hget_push_one _ _ _ _ (by omega) | (simp only [List.length_map, List.length_set, List.length_replicate, List.length_cons, List.length_nil]; omega) | (rw [hget_push_lt _ _ _ _ (by omega)]; first | assumption | exact hget_push_one _ _ _ _ (by omega))) only [WW0, WW1, WW2, WW3, WW4, WW5, WW6, WW7, Option.map_some, args0, slotsL, opdsA, List.cons_append, List.nil_append, List.map_cons, List.map_nil, List.append_nil, Option.toList_some, Option.toList_none, Nat.reduceEqDiff, Nat.reduceLT, Nat.reduceAdd, Nat.reduceBEq, Int.reduceAdd, Int.reduceSub, Int.reduceLT, Int.reduceLE, Int.reduceEq, Int.reduceNeg, ↓reduceIte, if_true, if_false, Bool.false_eq_true, Bool.not_true, Bool.not_false, List.length_cons, List.length_nil, List.length_singleton, reduceCtorEq, Int.toNat_natCast, Nat.zero_add, Nat.add_zero, Int.add_sub_cancel, eq_self, List.drop_zero, List.drop_succ_cons, Option.some.injEq, Prod.mk.injEq, mkFnA, Bool.and_true, Bool.true_and, Bool.and_self, t'.v.len, mkFnA, containsf_p w _ t'.v (by omega) (fun i => decide (¬ (V[i]!.length : Int) = q + 1)) hc]) | (refine does_goI_dec (fun _ => ?_) (fun _ => ?_)) | (refine does_goG_dec (fun _ => ?_) (fun _ => ?_)) | (refine does_goI (fun _ => ?_) (fun _ => ?_)) | (refine does_goG (fun _ => ?_) (fun _ => ?_)))
  rw [Bool.eq_iff_iff, hlen]
  simp only [validS, decide_eq_true_eq, firstP_iff]
  constructor
  · intro hh
    refine ⟨by omega, by omega, by omega, by omega, fun k hk => Decidable.byContradiction fun hn => hh ⟨k, hk, hn⟩⟩
  · rintro ⟨_, _, _, _, h5⟩ ⟨k, h6, h7⟩
    exact h7 (h5 k h6)
theorem wrong1_p {b : Nat} {t : TypeId} {v : Value} {l : List Bool} (hb : hget h b = some ⟨[v], 1, false, t⟩) (hr : Rd (oldOf w) h Value.bool v l) (i : Nat) (hi : i < l.length) :
    (EN w (n + 1)).pcall 54 [.int .i64 i, .pointer (some ⟨b, 0, some 0⟩)] ⟨h, nx, p⟩ = some (.bool l[i]!, []) := by
  refine pcall_eq rfl rfl (Nat.le_of_ble_eq_true rfl) ?_
  repeat' (first | (simp (disch := first | omega | assumption |  exact callP_old _ _ _ _ _ | exact one_int _ _ | exact one_bool _ | exact one_string _ | exact one_slice _ _ _ | exact one_pointer _ | exact hget_push_one _ _ _ _ (by omega) | (simp only [List.length_map, List.length_set, List.length_replicate, List.length_cons, List.length_nil]; omega) | (rw [hget_push_lt _ _ _ _ (by omega)]; first | assumption | exact hget_push_one _ _ _ _ (by omega))) only [WW0, WW1, WW2, WW3, WW4, WW5, WW6, WW7, Option.map_some, args0, slotsL, opdsA, List.cons_append, List.nil_append, List.map_cons, List.map_nil, List.append_nil, Option.toList_some, Option.toList_none, Nat.reduceEqDiff, Nat.reduceLT, Nat.reduceAdd, Nat.reduceBEq, Int.reduceAdd, Int.reduceSub, Int.reduceLT, Int.reduceLE, Int.reduceEq, Int.reduceNeg, ↓reduceIte, if_true, if_false, Bool.false_eq_true, Bool.not_true, Bool.not_false, List.length_cons, List.length_nil, List.length_singleton, reduceCtorEq, Int.toNat_natCast, Nat.zero_add, Nat.add_zero, Int.add_sub_cancel, eq_self, List.drop_zero, List.drop_succ_cons, Option.some.injEq, Prod.mk.injEq, mkFnA, Bool.and_true, Bool.true_and, Bool.and_self, hr.idx, hr.load, hb]) | (refine does_goI_dec (fun _ => ?_) (fun _ => ?_)) | (refine does_goG_dec (fun _ => ?_) (fun _ => ?_)) | (refine does_goI (fun _ => ?_) (fun _ => ?_)) | (refine does_goG (fun _ => ?_) (fun _ => ?_)))
theorem wrong2_p {b c : Nat} {q : Int} {t u : TypeId} (hb : hget h b = some ⟨[.int .i64 q, vC], 1, false, t⟩) (x : Nat) (hc : hget h c = some ⟨[.int .i64 x], 1, false, u⟩) (ht : CB w h nx vC rs V) (i : Nat) (hi : i < V.length) (hx : x < V[i]!.length) :
    (EN w (n + 1)).pcall 55 [.int .i64 i, .pointer (some ⟨b, 0, some 0⟩), .pointer (some ⟨c, 0, some 0⟩)] ⟨h, nx, p⟩ = some (.bool V[i]![x]!, []) := by
  refine pcall_eq rfl rfl (Nat.le_of_ble_eq_true rfl) ?_
  have hlen := ht.len
  have hr := ht.r i hi
  repeat' (first | (simp (disch := first | omega | assumption |  exact callP_old _ _ _ _ _ | exact one_int _ _ | exact one_bool _ | exact one_string _ | exact one_slice _ _ _ | exact one_pointer _ | exact hget_push_one _ _ _ _ (by omega) | (simp only [List.length_map, List.length_set, List.length_replicate, List.length_cons, List.length_nil]; omega) | (rw [hget_push_lt _ _ _ _ (by omega)]; first | assumption | exact hget_push_one _ _ _ _ (by omega))) only [WW0, WW1, WW2, WW3, WW4, WW5, WW6, WW7, Option.map_some, args0, slotsL, opdsA, List.cons_append, List.nil_append, List.map_cons, List.map_nil, List.append_nil, Option.toList_some, Option.toList_none, Nat.reduceEqDiff, Nat.reduceLT, Nat.reduceAdd, Nat.reduceBEq, Int.reduceAdd, Int.reduceSub, Int.reduceLT, Int.reduceLE, Int.reduceEq, Int.reduceNeg, ↓reduceIte, if_true, if_false, Bool.false_eq_true, Bool.not_true, Bool.not_false, List.length_cons, List.length_nil, List.length_singleton, reduceCtorEq, Int.toNat_natCast, Nat.zero_add, Nat.add_zero, Int.add_sub_cancel, eq_self, List.drop_zero, List.drop_succ_cons, Option.some.injEq, Prod.mk.injEq, mkFnA, Bool.and_true, Bool.true_and, Bool.and_self, ht.v.idx, ht.v.load, hr.idx, hr.load, hb, hc]) | (refine does_goI_dec (fun _ => ?_) (fun _ => ?_)) | (refine does_goG_dec (fun _ => ?_) (fun _ => ?_)) | (refine does_goI (fun _ => ?_) (fun _ => ?_)) | (refine does_goG (fun _ => ?_) (fun _ => ?_)))
def colS (V : List (List Bool)) (x k : Nat) : List Bool := (List.range k).map fun y => V[y]![x]!
theorem colS_succ (V : List (List Bool)) (x k : Nat) : colS V x (k + 1) = colS V x k ++ [V[k]![x]!] := by simp [colS, List.range_succ]
theorem column_p (ht : CB w h nx vC rs V) (x : Nat) (hx : ∀ i, i < V.length → x < V[i]!.length) :
    (EN w (n + 1)).pcall 42 [vC, .int .i64 x] ⟨h, nx, p⟩ = some (newV nx V.length, newB 4 1 V.length ((colS V x V.length).map Value.bool)) := by
  refine pcall_eq rfl rfl (Nat.le_of_ble_eq_true rfl) ?_
  have hlen := ht.len
  have hlv := ht.lv
  repeat' (first | (simp (disch := first | omega | assumption |  exact callP_old _ _ _ _ _ | exact one_int _ _ | exact one_bool _ | exact one_string _ | exact one_slice _ _ _ | exact one_pointer _ | exact hget_push_one _ _ _ _ (by omega) | (simp only [List.length_map, List.length_set, List.length_replicate, List.length_cons, List.length_nil]; omega) | (rw [hget_push_lt _ _ _ _ (by omega)]; first | assumption | exact hget_push_one _ _ _ _ (by omega))) only [WW0, WW1, WW2, WW3, WW4, WW5, WW6, WW7, Option.map_some, args0, slotsL, opdsA, List.cons_append, List.nil_append, List.map_cons, List.map_nil, List.append_nil, Option.toList_some, Option.toList_none, Nat.reduceEqDiff, Nat.reduceLT, Nat.reduceAdd, Nat.reduceBEq, Int.reduceAdd, Int.reduceSub, Int.reduceLT, Int.reduceLE, Int.reduceEq, Int.reduceNeg, ↓reduceIte, if_true, if_false, Bool.false_eq_true, Bool.not_true, Bool.not_false, List.length_cons, List.length_nil, List.length_singleton, reduceCtorEq, Int.toNat_natCast, Nat.zero_add, Nat.add_zero, Int.add_sub_cancel, eq_self, List.drop_zero, List.drop_succ_cons, Option.some.injEq, Prod.mk.injEq, mkFnA, Bool.and_true, Bool.true_and, Bool.and_self, ht.v.len]) | (refine does_goI_dec (fun _ => ?_) (fun _ => ?_)) | (refine does_goG_dec (fun _ => ?_) (fun _ => ?_)) | (refine does_goI (fun _ => ?_) (fun _ => ?_)) | (refine does_goG (fun _ => ?_) (fun _ => ?_)))
  refine does_while (fun m fr t => ∃ (k : Nat) (v : Value) (h1 : Heap) (n1 : Nat), m = V.length - k ∧ k ≤ V.length ∧ fr = [(0, vC), (1, .int .i64 x), (5, v), (6, .int .i64 k)] ∧ t = ⟨h1, n1, nx⟩ ∧ HX nx h h1 ∧ nx ≤ n1 ∧ (k = 0 → v = .slice none 0 0) ∧
    Own nx ⟨h1, n1, nx⟩ 4 1 v k ((colS V x k).map Value.bool)) (m := V.length) ?_ ?_ ?_
  · exact ⟨0, _, _, _, by omega, by omega, rfl, rfl, HX.refl _ _, Nat.le_refl _, fun _ => rfl, Own.nil⟩
  · simp (disch := first | omega | assumption |  exact callP_old _ _ _ _ _ | exact one_int _ _ | exact one_bool _ | exact one_string _ | exact one_slice _ _ _ | exact one_pointer _ | exact hget_push_one _ _ _ _ (by omega) | (simp only [List.length_map, List.length_set, List.length_replicate, List.length_cons, List.length_nil]; omega) | (rw [hget_push_lt _ _ _ _ (by omega)]; first | assumption | exact hget_push_one _ _ _ _ (by omega))) only [WW0, WW1, WW2, WW3, WW4, WW5, WW6, WW7, Option.map_some, args0, slotsL, opdsA, List.cons_append, List.nil_append, List.map_cons, List.map_nil, List.append_nil, Option.toList_some, Option.toList_none, Nat.reduceEqDiff, Nat.reduceLT, Nat.reduceAdd, Nat.reduceBEq, Int.reduceAdd, Int.reduceSub, Int.reduceLT, Int.reduceLE, Int.reduceEq, Int.reduceNeg, ↓reduceIte, if_true, if_false, Bool.false_eq_true, Bool.not_true, Bool.not_false, List.length_cons, List.length_nil, List.length_singleton, reduceCtorEq, Int.toNat_natCast, Nat.zero_add, Nat.add_zero, Int.add_sub_cancel, eq_self, List.drop_zero, List.drop_succ_cons, Option.some.injEq, Prod.mk.injEq, mkFnA, Bool.and_true, Bool.true_and, Bool.and_self]
    unfold many; omega
  · rintro m fr tt ⟨k, v, h1, n1, rfl, hk, rfl, rfl, hx1, hn1, hv0, ho⟩
    have ht1 := ht.hx hx1 hn1
    have hb2 := ho.bid2
    have hbd := ho.bid
    by_cases hlt : k < V.length
    · have hr := ht1.r k hlt
      have hxk := hx k hlt
      have hpush := fun c => ho.appRow (E := EN w n) (b := 1) (c := .bool c) (t' := 4) (g := false) (one_bool _) (by omega) (by omega)
      repeat' (first | (simp (disch := first | omega | assumption |  exact callP_old _ _ _ _ _ | exact one_int _ _ | exact one_bool _ | exact one_string _ | exact one_slice _ _ _ | exact one_pointer _ | exact hget_push_one _ _ _ _ (by omega) | (simp only [List.length_map, List.length_set, List.length_replicate, List.length_cons, List.length_nil]; omega) | (rw [hget_push_lt _ _ _ _ (by omega)]; first | assumption | exact hget_push_one _ _ _ _ (by omega))) only [WW0, WW1, WW2, WW3, WW4, WW5, WW6, WW7, Option.map_some, args0, slotsL, opdsA, List.cons_append, List.nil_append, List.map_cons, List.map_nil, List.append_nil, Option.toList_some, Option.toList_none, Nat.reduceEqDiff, Nat.reduceLT, Nat.reduceAdd, Nat.reduceBEq, Int.reduceAdd, Int.reduceSub, Int.reduceLT, Int.reduceLE, Int.reduceEq, Int.reduceNeg, ↓reduceIte, if_true, if_false, Bool.false_eq_true, Bool.not_true, Bool.not_false, List.length_cons, List.length_nil, List.length_singleton, reduceCtorEq, Int.toNat_natCast, Nat.zero_add, Nat.add_zero, Int.add_sub_cancel, eq_self, List.drop_zero, List.drop_succ_cons, Option.some.injEq, Prod.mk.injEq, mkFnA, Bool.and_true, Bool.true_and, Bool.and_self, c42l0, ht1.v.len, ht1.v.idx, ht1.v.load, hr.idx, hr.load, hpush]) | (refine does_goI_dec (fun _ => ?_) (fun _ => ?_)) | (refine does_goG_dec (fun _ => ?_) (fun _ => ?_)) | (refine does_goI (fun _ => ?_) (fun _ => ?_)) | (refine does_goG (fun _ => ?_) (fun _ => ?_)))
      refine ⟨_, ?_, k + 1, _, _, _, rfl, hlt, by simp; rfl, rfl, ?_, ?_, ?_, ?_⟩
      · omega
      · exact ((hx1.push _ hn1).delO (by omega)).push _ (by omega)
      · omega
      · intro h; omega
      · rw [colS_succ, List.map_append]
        exact Own.grown (by simp [colS]) (by omega) (by omega)
    · have : k = V.length := by omega
      subst this
      repeat' (first | (simp (disch := first | omega | assumption |  exact callP_old _ _ _ _ _ | exact one_int _ _ | exact one_bool _ | exact one_string _ | exact one_slice _ _ _ | exact one_pointer _ | exact hget_push_one _ _ _ _ (by omega) | (simp only [List.length_map, List.length_set, List.length_replicate, List.length_cons, List.length_nil]; omega) | (rw [hget_push_lt _ _ _ _ (by omega)]; first | assumption | exact hget_push_one _ _ _ _ (by omega))) only [WW0, WW1, WW2, WW3, WW4, WW5, WW6, WW7, Option.map_some, args0, slotsL, opdsA, List.cons_append, List.nil_append, List.map_cons, List.map_nil, List.append_nil, Option.toList_some, Option.toList_none, Nat.reduceEqDiff, Nat.reduceLT, Nat.reduceAdd, Nat.reduceBEq, Int.reduceAdd, Int.reduceSub, Int.reduceLT, Int.reduceLE, Int.reduceEq, Int.reduceNeg, ↓reduceIte, if_true, if_false, Bool.false_eq_true, Bool.not_true, Bool.not_false, List.length_cons, List.length_nil, List.length_singleton, reduceCtorEq, Int.toNat_natCast, Nat.zero_add, Nat.add_zero, Int.add_sub_cancel, eq_self, List.drop_zero, List.drop_succ_cons, Option.some.injEq, Prod.mk.injEq, mkFnA, Bool.and_true, Bool.true_and, Bool.and_self, c42l0, ht1.v.len]) | (refine does_goI_dec (fun _ => ?_) (fun _ => ?_)) | (refine does_goG_dec (fun _ => ?_) (fun _ => ?_)) | (refine does_goI (fun _ => ?_) (fun _ => ?_)) | (refine does_goG (fun _ => ?_) (fun _ => ?_)))
      exact ho.gc hv0 (idsL_bools _ _)
end
end Go.Proofs.YtepdkmdcainddaaDoor
namespace Go.Proofs.YtepdkmdcainddaaDoor
open Go Go.Itp
set_option linter.unusedSimpArgs false
set_option linter.unusedVariables false
set_option maxRecDepth 100000
set_option maxHeartbeats 1000000
attribute [local irreducible] Does

/-- the numbers below a bound that a predicate picks -/
def sel (pr : Nat → Bool) : Nat → List Int
  | 0 => []
  | k + 1 => if pr k then sel pr k ++ [(k : Int)] else sel pr k
theorem sel_le (pr : Nat → Bool) : ∀ k, (sel pr k).length ≤ k
  | 0 => Nat.le_refl _
  | k + 1 => by
    have := sel_le pr k
    simp only [sel]; split <;> simp <;> omega
theorem sel_mem (pr : Nat → Bool) : ∀ k, ∀ z ∈ sel pr k, 0 ≤ z ∧ z < k
  | 0, z, h => by simp [sel] at h
  | k + 1, z, h => by
    have ih := sel_mem pr k z
    simp only [sel] at h
    split at h
    · rcases List.mem_append.1 h with h | h
      · have := ih h; omega
      · simp at h; omega
    · have := ih h; omega
def cardP (V : List (List Bool)) (y : Nat) : Bool := oddTo (fun x => V[y]![x]!) V[y]!.length
def placeP (V : List (List Bool)) (x : Nat) : Bool := oddTo (fun y => V[y]![x]!) V.length
def wrongE (q : Int) (V : List (List Bool)) : Int := if validS q V then 0 else 8
def wrongA (q : Int) (V : List (List Bool)) : List Int := if validS q V then sel (cardP V) V.length else []
def wrongB (q : Int) (V : List (List Bool)) : List Int := if validS q V then sel (placeP V) (q + 1).toNat else []
theorem valid_out {q : Int} {V : List (List Bool)} (h : validS q V = true) : 1 ≤ q ∧ q ≤ 40 ∧ 2 ≤ V.length ∧ V.length ≤ 65 ∧ ∀ k, k < V.length → (V[k]!.length : Int) = q + 1 := of_decide_eq_true h
theorem _root_.Go.Itp.Own.rdI {lo : Nat} {s : St} {t : TypeId} {v : Value} {n : Nat} {l : List Int} {old : Nat → Nat → Option Value} (o : Own lo s t 1 v n (l.map vI)) (hn : n = l.length) : Rd old s.heap vI v l := by
  subst hn; exact o.rd
/-- a list that is not empty lies in a new block -/
def FS (nx : Nat) (a : Value) (l : List Int) : Prop := l ≠ [] → ∃ i c, a = .slice (some ⟨i, 0, some 0⟩) l.length c ∧ nx ≤ i
theorem FS.nil {nx : Nat} {a : Value} : FS nx a [] := fun h => absurd rfl h
theorem _root_.Go.Itp.Own.fs {lo nx : Nat} {s : St} {t : TypeId} {v : Value} {l : List Int} (o : Own lo s t 1 v l.length (l.map vI)) (h : nx ≤ lo) : FS nx v l := by
  intro hn
  rcases o.is with ⟨_, h1, _⟩ | ⟨i, hi, _, _, ⟨_, h1, _⟩ | ⟨h1, _⟩⟩
  · exact absurd (List.length_eq_zero_iff.1 h1) hn
  · exact absurd (List.length_eq_zero_iff.1 h1) hn
  · exact ⟨i, _, h1, by omega⟩
section
variable (w : World) (n : Nat) {vC : Value} {rs : List Value} {V : List (List Bool)} {h : Heap} {nx p : Nat}
theorem wrong_w (t : CB w h nx vC rs V) (q : Int) (hq : -9223372036854775808 ≤ q ∧ q ≤ 9223372036854775807) (hp : p ≤ nx) :
    ∃ (a b : Value) (h' : Heap) (n' : Nat), (EN w (n + 5)).wcall 30 [.agg [.int .i64 q, vC].toArray] ⟨h, nx, p⟩ = some (.tuple [a, b, .int .i64 (wrongE q V)].toArray, ⟨h', n', p⟩) ∧
      HX nx h h' ∧ nx ≤ n' ∧ Rd (oldOf w) h' vI a (wrongA q V) ∧ Rd (oldOf w) h' vI b (wrongB q V) ∧ bidN a ≤ n' ∧ bidN b ≤ n' ∧ FS nx a (wrongA q V) ∧ FS nx b (wrongB q V) := by
  have key : ∃ v s', (EN w (n + 5)).wcall 30 [.agg [.int .i64 q, vC].toArray] ⟨h, nx, p⟩ = some (v, s') ∧ (∃ (a b : Value) (h' : Heap) (n' : Nat), v = .tuple [a, b, .int .i64 (wrongE q V)].toArray ∧ s' = ⟨h', n', p⟩ ∧
      HX nx h h' ∧ nx ≤ n' ∧ Rd (oldOf w) h' vI a (wrongA q V) ∧ Rd (oldOf w) h' vI b (wrongB q V) ∧ bidN a ≤ n' ∧ bidN b ≤ n' ∧ FS nx a (wrongA q V) ∧ FS nx b (wrongB q V)) := by
    refine wcall_ex rfl (Nat.le_of_ble_eq_true rfl) ?_
    have t' := t.push [⟨[.int .i64 q, vC], 1, false, 34⟩] (nx' := nx + 1) (by omega)
    have hlen := t.len
    have hlv := t.lv
    have hx0 : HX nx h (hpush h nx [⟨[.int .i64 q, vC], 1, false, 34⟩]) := (HX.refl _ _).push _ (Nat.le_refl _)
    cases hv : validS q V
    · repeat' (first | (simp (disch := first | omega | assumption |  exact callP_old _ _ _ _ _ | exact one_int _ _ | exact one_bool _ | exact one_string _ | exact one_slice _ _ _ | exact one_pointer _ | exact hget_push_one _ _ _ _ (by omega) | (simp only [List.length_map, List.length_set, List.length_replicate, List.length_cons, List.length_nil]; omega) | (rw [hget_push_lt _ _ _ _ (by omega)]; first | assumption | exact hget_push_one _ _ _ _ (by omega))) only [WW0, WW1, WW2, WW3, WW4, WW5, WW6, WW7, Option.map_some, args0, slotsL, opdsA, List.cons_append, List.nil_append, List.map_cons, List.map_nil, List.append_nil, Option.toList_some, Option.toList_none, Nat.reduceEqDiff, Nat.reduceLT, Nat.reduceAdd, Nat.reduceBEq, Int.reduceAdd, Int.reduceSub, Int.reduceLT, Int.reduceLE, Int.reduceEq, Int.reduceNeg, ↓reduceIte, if_true, if_false, Bool.false_eq_true, Bool.not_true, Bool.not_false, List.length_cons, List.length_nil, List.length_singleton, reduceCtorEq, Int.toNat_natCast, Nat.zero_add, Nat.add_zero, Int.add_sub_cancel, eq_self, List.drop_zero, List.drop_succ_cons, Option.some.injEq, Prod.mk.injEq, mkFnA, Bool.and_true, Bool.true_and, Bool.and_self, valid_p w n t' q hq, hv]) | (refine does_goI_dec (fun _ => ?_) (fun _ => ?_)) | (refine does_goG_dec (fun _ => ?_) (fun _ => ?_)) | (refine does_goI (fun _ => ?_) (fun _ => ?_)) | (refine does_goG (fun _ => ?_) (fun _ => ?_)))
      refine ⟨.slice none 0 0, .slice none 0 0, _, _, by simp [wrongE, hv, tupleOf], rfl, hx0, by omega, ?_, ?_, ?_, ?_, ?_, ?_⟩
      · simp only [wrongA, hv]; exact Rd.nil
      · simp only [wrongB, hv]; exact Rd.nil
      · simp [bidN, bidA]
      · simp [bidN, bidA]
      · simp only [wrongA, hv]; exact FS.nil
      · simp only [wrongB, hv]; exact FS.nil
    obtain ⟨v1, v2, v3, v4, v5⟩ := valid_out hv
    repeat' (first | (simp (disch := first | omega | assumption |  exact callP_old _ _ _ _ _ | exact one_int _ _ | exact one_bool _ | exact one_string _ | exact one_slice _ _ _ | exact one_pointer _ | exact hget_push_one _ _ _ _ (by omega) | (simp only [List.length_map, List.length_set, List.length_replicate, List.length_cons, List.length_nil]; omega) | (rw [hget_push_lt _ _ _ _ (by omega)]; first | assumption | exact hget_push_one _ _ _ _ (by omega))) only [WW0, WW1, WW2, WW3, WW4, WW5, WW6, WW7, Option.map_some, args0, slotsL, opdsA, List.cons_append, List.nil_append, List.map_cons, List.map_nil, List.append_nil, Option.toList_some, Option.toList_none, Nat.reduceEqDiff, Nat.reduceLT, Nat.reduceAdd, Nat.reduceBEq, Int.reduceAdd, Int.reduceSub, Int.reduceLT, Int.reduceLE, Int.reduceEq, Int.reduceNeg, ↓reduceIte, if_true, if_false, Bool.false_eq_true, Bool.not_true, Bool.not_false, List.length_cons, List.length_nil, List.length_singleton, reduceCtorEq, Int.toNat_natCast, Nat.zero_add, Nat.add_zero, Int.add_sub_cancel, eq_self, List.drop_zero, List.drop_succ_cons, Option.some.injEq, Prod.mk.injEq, mkFnA, Bool.and_true, Bool.true_and, Bool.and_self, valid_p w n t' q hq, hv, t'.v.len]) | (refine does_goI_dec (fun _ => ?_) (fun _ => ?_)) | (refine does_goG_dec (fun _ => ?_) (fun _ => ?_)) | (refine does_goI (fun _ => ?_) (fun _ => ?_)) | (refine does_goG (fun _ => ?_) (fun _ => ?_)))
    refine does_while (fun m fr t => ∃ (k : Nat) (v : Value) (h1 : Heap) (n1 : Nat), m = V.length - k ∧ k ≤ V.length ∧ fr = [(1, .pointer (some ⟨nx, 0, some 0⟩)), (2, v), (3, .slice none 0 0), (12, vC), (13, .int .i64 rs.length), (14, .int .i64 k)] ∧ t = ⟨h1, n1, p⟩ ∧
      HX (nx + 1) (hpush h nx [⟨[.int .i64 q, vC], 1, false, 34⟩]) h1 ∧ nx + 1 ≤ n1 ∧ Own (nx + 1) ⟨h1, n1, p⟩ 3 1 v (sel (cardP V) k).length ((sel (cardP V) k).map vI)) (m := V.length) ?_ ?_ ?_
    · exact ⟨0, _, _, _, by omega, by omega, rfl, rfl, HX.refl _ _, Nat.le_refl _, Own.nil⟩
    · simp (disch := first | omega | assumption |  exact callP_old _ _ _ _ _ | exact one_int _ _ | exact one_bool _ | exact one_string _ | exact one_slice _ _ _ | exact one_pointer _ | exact hget_push_one _ _ _ _ (by omega) | (simp only [List.length_map, List.length_set, List.length_replicate, List.length_cons, List.length_nil]; omega) | (rw [hget_push_lt _ _ _ _ (by omega)]; first | assumption | exact hget_push_one _ _ _ _ (by omega))) only [WW0, WW1, WW2, WW3, WW4, WW5, WW6, WW7, Option.map_some, args0, slotsL, opdsA, List.cons_append, List.nil_append, List.map_cons, List.map_nil, List.append_nil, Option.toList_some, Option.toList_none, Nat.reduceEqDiff, Nat.reduceLT, Nat.reduceAdd, Nat.reduceBEq, Int.reduceAdd, Int.reduceSub, Int.reduceLT, Int.reduceLE, Int.reduceEq, Int.reduceNeg, ↓reduceIte, if_true, if_false, Bool.false_eq_true, Bool.not_true, Bool.not_false, List.length_cons, List.length_nil, List.length_singleton, reduceCtorEq, Int.toNat_natCast, Nat.zero_add, Nat.add_zero, Int.add_sub_cancel, eq_self, List.drop_zero, List.drop_succ_cons, Option.some.injEq, Prod.mk.injEq, mkFnA, Bool.and_true, Bool.true_and, Bool.and_self]
      unfold many; omega
    · rintro m fr tt ⟨k, v, h1, n1, rfl, hk, rfl, rfl, hx1, hn1, ho⟩
      have ht1 := t'.hx hx1 hn1
      have hb2 := ho.bid2
      have hbd := ho.bid
      have hsl := sel_le (cardP V) k
      by_cases hlt : k < V.length
      · have hr := ht1.r k hlt
        have hone := hr.one
        have hrep : (List.replicate 1 (Value.slice none 0 0)).set 0 rs[k]! = [rs[k]!] := rfl
        have hbr := ht1.br k hlt
        obtain ⟨H2, hH2⟩ : ∃ H2, H2 = hset (hpush h1 n1 [⟨List.replicate 1 (.slice none 0 0), 1, false, 22⟩]) n1 ⟨[rs[k]!], 1, false, 22⟩ := ⟨_, rfl⟩
        have hx2 : HX (nx + 1) (hpush h nx [⟨[.int .i64 q, vC], 1, false, 34⟩]) H2 := by subst hH2; exact (hx1.push _ hn1).set _ hn1
        have hg : hget H2 n1 = some ⟨[rs[k]!], 1, false, 22⟩ := by subst hH2; rw [hget_set_self, hget_push_one _ _ _ _ rfl]; rfl
        have hr2 : Rd (oldOf w) H2 Value.bool rs[k]! V[k]! := by subst hH2; exact (hr.push _ hbr).set _ (by omega)
        have hodd : (EN w (n + 4)).pcall 38 [.int .i64 V[k]!.length, .func (.func 54) #[] #[.pointer (some ⟨n1, 0, some 0⟩)]] ⟨H2, n1 + 1, p⟩ = some (.bool (cardP V k), []) :=
          odd_p w (n + 3) (f := 54) (caps := [.pointer (some ⟨n1, 0, some 0⟩)]) V[k]!.length (fun x => V[k]![x]!) (t.lr k hlt) (fun i hi => wrong1_p w (n + 2) hg hr2 i hi)
        have ho2 : Own (nx + 1) ⟨H2, n1 + 1, p⟩ 3 1 v (sel (cardP V) k).length ((sel (cardP V) k).map vI) := ho.to (by simp) rfl fun i hi => by
          simp only at hbd
          subst hH2
          rw [hget_set_ne _ _ _ _ (by omega), hget_push_lt _ _ _ _ (by omega)]
        have happ := ho2.appRow (E := EN w (n + 4)) (b := 8) (c := .int .i64 k) (t' := 3) (g := false) (one_int _ _) (by omega) (by omega)
        cases hcp : cardP V k
        · rw [hcp] at hodd
          repeat' (first | (simp (disch := first | omega | assumption |  exact callP_old _ _ _ _ _ | exact one_int _ _ | exact one_bool _ | exact one_string _ | exact one_slice _ _ _ | exact one_pointer _ | exact hget_push_one _ _ _ _ (by omega) | (simp only [List.length_map, List.length_set, List.length_replicate, List.length_cons, List.length_nil]; omega) | (rw [hget_push_lt _ _ _ _ (by omega)]; first | assumption | exact hget_push_one _ _ _ _ (by omega))) only [WW0, WW1, WW2, WW3, WW4, WW5, WW6, WW7, Option.map_some, args0, slotsL, opdsA, List.cons_append, List.nil_append, List.map_cons, List.map_nil, List.append_nil, Option.toList_some, Option.toList_none, Nat.reduceEqDiff, Nat.reduceLT, Nat.reduceAdd, Nat.reduceBEq, Int.reduceAdd, Int.reduceSub, Int.reduceLT, Int.reduceLE, Int.reduceEq, Int.reduceNeg, ↓reduceIte, if_true, if_false, Bool.false_eq_true, Bool.not_true, Bool.not_false, List.length_cons, List.length_nil, List.length_singleton, reduceCtorEq, Int.toNat_natCast, Nat.zero_add, Nat.add_zero, Int.add_sub_cancel, eq_self, List.drop_zero, List.drop_succ_cons, Option.some.injEq, Prod.mk.injEq, mkFnA, Bool.and_true, Bool.true_and, Bool.and_self, c30l1, ht1.v.idx, ht1.v.load, hrep, hr.len, mkFnA, ← hH2, hg, hodd]) | (refine does_goI_dec (fun _ => ?_) (fun _ => ?_)) | (refine does_goG_dec (fun _ => ?_) (fun _ => ?_)) | (refine does_goI (fun _ => ?_) (fun _ => ?_)) | (refine does_goG (fun _ => ?_) (fun _ => ?_)))
          refine ⟨_, ?_, k + 1, _, _, _, rfl, hlt, by simp; rfl, rfl, hx2, by omega, ?_⟩
          · omega
          · simpa [sel, hcp] using ho2
        · rw [hcp] at hodd
          repeat' (first | (simp (disch := first | omega | assumption |  exact callP_old _ _ _ _ _ | exact one_int _ _ | exact one_bool _ | exact one_string _ | exact one_slice _ _ _ | exact one_pointer _ | exact hget_push_one _ _ _ _ (by omega) | (simp only [List.length_map, List.length_set, List.length_replicate, List.length_cons, List.length_nil]; omega) | (rw [hget_push_lt _ _ _ _ (by omega)]; first | assumption | exact hget_push_one _ _ _ _ (by omega))) only [WW0, WW1, WW2, WW3, WW4, WW5, WW6, WW7, Option.map_some, args0, slotsL, opdsA, List.cons_append, List.nil_append, List.map_cons, List.map_nil, List.append_nil, Option.toList_some, Option.toList_none, Nat.reduceEqDiff, Nat.reduceLT, Nat.reduceAdd, Nat.reduceBEq, Int.reduceAdd, Int.reduceSub, Int.reduceLT, Int.reduceLE, Int.reduceEq, Int.reduceNeg, ↓reduceIte, if_true, if_false, Bool.false_eq_true, Bool.not_true, Bool.not_false, List.length_cons, List.length_nil, List.length_singleton, reduceCtorEq, Int.toNat_natCast, Nat.zero_add, Nat.add_zero, Int.add_sub_cancel, eq_self, List.drop_zero, List.drop_succ_cons, Option.some.injEq, Prod.mk.injEq, mkFnA, Bool.and_true, Bool.true_and, Bool.and_self, c30l1, ht1.v.idx, ht1.v.load, hrep, hr.len, mkFnA, ← hH2, hg, hodd, happ]) | (refine does_goI_dec (fun _ => ?_) (fun _ => ?_)) | (refine does_goG_dec (fun _ => ?_) (fun _ => ?_)) | (refine does_goI (fun _ => ?_) (fun _ => ?_)) | (refine does_goG (fun _ => ?_) (fun _ => ?_)))
          refine ⟨_, ?_, k + 1, _, _, _, rfl, hlt, by simp; rfl, rfl, ((hx2.push _ (by omega)).delO (by omega)).push _ (by omega), by omega, ?_⟩
          · omega
          · have e : sel (cardP V) (k + 1) = sel (cardP V) k ++ [(k : Int)] := by simp [sel, hcp]
            rw [e, List.map_append, List.length_append]
            exact Own.grown (by simp) (by omega) (by omega)
      · have : k = V.length := by omega
        subst this
        have hbox : hget h1 nx = some ⟨[.int .i64 q, vC], 1, false, 34⟩ := by rw [hx1 nx (by omega)]; exact hget_push_one _ _ _ _ rfl
        have hrA := ho.rdI (old := oldOf w) rfl
        simp only at hbd
        repeat' (first | (simp (disch := first | omega | assumption |  exact callP_old _ _ _ _ _ | exact one_int _ _ | exact one_bool _ | exact one_string _ | exact one_slice _ _ _ | exact one_pointer _ | exact hget_push_one _ _ _ _ (by omega) | (simp only [List.length_map, List.length_set, List.length_replicate, List.length_cons, List.length_nil]; omega) | (rw [hget_push_lt _ _ _ _ (by omega)]; first | assumption | exact hget_push_one _ _ _ _ (by omega))) only [WW0, WW1, WW2, WW3, WW4, WW5, WW6, WW7, Option.map_some, args0, slotsL, opdsA, List.cons_append, List.nil_append, List.map_cons, List.map_nil, List.append_nil, Option.toList_some, Option.toList_none, Nat.reduceEqDiff, Nat.reduceLT, Nat.reduceAdd, Nat.reduceBEq, Int.reduceAdd, Int.reduceSub, Int.reduceLT, Int.reduceLE, Int.reduceEq, Int.reduceNeg, ↓reduceIte, if_true, if_false, Bool.false_eq_true, Bool.not_true, Bool.not_false, List.length_cons, List.length_nil, List.length_singleton, reduceCtorEq, Int.toNat_natCast, Nat.zero_add, Nat.add_zero, Int.add_sub_cancel, eq_self, List.drop_zero, List.drop_succ_cons, Option.some.injEq, Prod.mk.injEq, mkFnA, Bool.and_true, Bool.true_and, Bool.and_self, c30l1, hbox]) | (refine does_goI_dec (fun _ => ?_) (fun _ => ?_)) | (refine does_goG_dec (fun _ => ?_) (fun _ => ?_)) | (refine does_goI (fun _ => ?_) (fun _ => ?_)) | (refine does_goG (fun _ => ?_) (fun _ => ?_)))
        refine does_while (fun m fr t => ∃ (k : Nat) (u : Value) (h2 : Heap) (n2 : Nat), m = (q + 1).toNat - k ∧ k ≤ (q + 1).toNat ∧ fr = [(1, .pointer (some ⟨nx, 0, some 0⟩)), (2, v), (3, u), (30, .int .i64 (q + 1)), (31, .int .i64 k)] ∧ t = ⟨h2, n2, p⟩ ∧
          HX n1 h1 h2 ∧ n1 ≤ n2 ∧ Own n1 ⟨h2, n2, p⟩ 3 1 u (sel (placeP V) k).length ((sel (placeP V) k).map vI)) (m := (q + 1).toNat) ?_ ?_ ?_
        · exact ⟨0, _, _, _, by omega, by omega, rfl, rfl, HX.refl _ _, Nat.le_refl _, Own.nil⟩
        · simp (disch := first | omega | assumption |  exact callP_old _ _ _ _ _ | exact one_int _ _ | exact one_bool _ | exact one_string _ | exact one_slice _ _ _ | exact one_pointer _ | exact hget_push_one _ _ _ _ (by omega) | (simp only [List.length_map, List.length_set, List.length_replicate, List.length_cons, List.length_nil]; omega) | (rw [hget_push_lt _ _ _ _ (by omega)]; first | assumption | exact hget_push_one _ _ _ _ (by omega))) only [WW0, WW1, WW2, WW3, WW4, WW5, WW6, WW7, Option.map_some, args0, slotsL, opdsA, List.cons_append, List.nil_append, List.map_cons, List.map_nil, List.append_nil, Option.toList_some, Option.toList_none, Nat.reduceEqDiff, Nat.reduceLT, Nat.reduceAdd, Nat.reduceBEq, Int.reduceAdd, Int.reduceSub, Int.reduceLT, Int.reduceLE, Int.reduceEq, Int.reduceNeg, ↓reduceIte, if_true, if_false, Bool.false_eq_true, Bool.not_true, Bool.not_false, List.length_cons, List.length_nil, List.length_singleton, reduceCtorEq, Int.toNat_natCast, Nat.zero_add, Nat.add_zero, Int.add_sub_cancel, eq_self, List.drop_zero, List.drop_succ_cons, Option.some.injEq, Prod.mk.injEq, mkFnA, Bool.and_true, Bool.true_and, Bool.and_self]
          unfold many; omega
        · rintro m fr tt ⟨k, u, h2, n2, rfl, hk, rfl, rfl, hy1, hm1, hu⟩
          have ht2 := ht1.hx hy1 hm1
          have hb2 := hu.bid2
          have hbd2 := hu.bid
          simp only at hbd2
          have hsl := sel_le (placeP V) k
          have hbox2 : hget h2 nx = some ⟨[.int .i64 q, vC], 1, false, 34⟩ := by rw [hy1 nx (by omega)]; exact hbox
          by_cases hlt : k < (q + 1).toNat
          · have hlt' : (k : Int) < q + 1 := by omega
            obtain ⟨H3, hH3⟩ : ∃ H3, H3 = hset (hpush h2 n2 [⟨((List.replicate 1 (0 : Int)).map vI), 1, false, 3⟩]) n2 ⟨(((List.replicate 1 (0 : Int)).set 0 k).map vI), 1, false, 3⟩ := ⟨_, rfl⟩
            have hx3 : HX n1 h1 H3 := by subst hH3; exact (hy1.push _ hm1).set _ hm1
            have hg : hget H3 n2 = some ⟨[.int .i64 k], 1, false, 3⟩ := by subst hH3; rw [hget_set_self, hget_push_one _ _ _ _ rfl]; rfl
            have hbox3 : hget H3 nx = some ⟨[.int .i64 q, vC], 1, false, 34⟩ := by rw [hx3 nx (by omega)]; exact hbox
            have ht3 : CB w H3 (n2 + 1) vC rs V := ht1.hx hx3 (by omega)
            have hodd : (EN w (n + 4)).pcall 38 [.int .i64 rs.length, .func (.func 55) #[] #[.pointer (some ⟨nx, 0, some 0⟩), .pointer (some ⟨n2, 0, some 0⟩)]] ⟨H3, n2 + 1, p⟩ = some (.bool (placeP V k), []) := by
              rw [hlen]
              exact odd_p w (n + 3) (f := 55) (caps := [.pointer (some ⟨nx, 0, some 0⟩), .pointer (some ⟨n2, 0, some 0⟩)]) V.length (fun y => V[y]![k]!) (by omega) (fun i hi => wrong2_p w (n + 2) hbox3 k hg ht3 i hi (by have := v5 i hi; omega))
            have hu3 : Own n1 ⟨H3, n2 + 1, p⟩ 3 1 u (sel (placeP V) k).length ((sel (placeP V) k).map vI) := hu.to (by simp) rfl fun i hi => by
              subst hH3
              rw [hget_set_ne _ _ _ _ (by omega), hget_push_lt _ _ _ _ (by omega)]
            have happ := hu3.appRow (E := EN w (n + 4)) (b := 8) (c := .int .i64 k) (t' := 3) (g := false) (one_int _ _) (by omega) (by omega)
            cases hcp : placeP V k
            · rw [hcp] at hodd
              repeat' (first | (simp (disch := first | omega | assumption |  exact callP_old _ _ _ _ _ | exact one_int _ _ | exact one_bool _ | exact one_string _ | exact one_slice _ _ _ | exact one_pointer _ | exact hget_push_one _ _ _ _ (by omega) | (simp only [List.length_map, List.length_set, List.length_replicate, List.length_cons, List.length_nil]; omega) | (rw [hget_push_lt _ _ _ _ (by omega)]; first | assumption | exact hget_push_one _ _ _ _ (by omega))) only [WW0, WW1, WW2, WW3, WW4, WW5, WW6, WW7, Option.map_some, args0, slotsL, opdsA, List.cons_append, List.nil_append, List.map_cons, List.map_nil, List.append_nil, Option.toList_some, Option.toList_none, Nat.reduceEqDiff, Nat.reduceLT, Nat.reduceAdd, Nat.reduceBEq, Int.reduceAdd, Int.reduceSub, Int.reduceLT, Int.reduceLE, Int.reduceEq, Int.reduceNeg, ↓reduceIte, if_true, if_false, Bool.false_eq_true, Bool.not_true, Bool.not_false, List.length_cons, List.length_nil, List.length_singleton, reduceCtorEq, Int.toNat_natCast, Nat.zero_add, Nat.add_zero, Int.add_sub_cancel, eq_self, List.drop_zero, List.drop_succ_cons, Option.some.injEq, Prod.mk.injEq, mkFnA, Bool.and_true, Bool.true_and, Bool.and_self, c30l0, hbox2, hbox3, hg, ht3.v.len, mkFnA, ← hH3, hodd]) | (refine does_goI_dec (fun _ => ?_) (fun _ => ?_)) | (refine does_goG_dec (fun _ => ?_) (fun _ => ?_)) | (refine does_goI (fun _ => ?_) (fun _ => ?_)) | (refine does_goG (fun _ => ?_) (fun _ => ?_)))
              refine ⟨_, ?_, k + 1, _, _, _, rfl, hlt, by simp; rfl, rfl, hx3, by omega, ?_⟩
              · omega
              · simpa [sel, hcp] using hu3
            · rw [hcp] at hodd
              repeat' (first | (simp (disch := first | omega | assumption |  exact callP_old _ _ _ _ _ | exact one_int _ _ | exact one_bool _ | exact one_string _ | exact one_slice _ _ _ | exact one_pointer _ | exact hget_push_one _ _ _ _ (by omega) | (simp only [List.length_map, List.length_set, List.length_replicate, List.length_cons, List.length_nil]; omega) | (rw [hget_push_lt _ _ _ _ (by omega)]; first | assumption | exact hget_push_one _ _ _ _ (by omega))) only [WW0, WW1, WW2, WW3, WW4, WW5, WW6, WW7, Option.map_some, args0, slotsL, opdsA, List.cons_append, List.nil_append, List.map_cons, List.map_nil, List.append_nil, Option.toList_some, Option.toList_none, Nat.reduceEqDiff, Nat.reduceLT, Nat.reduceAdd, Nat.reduceBEq, Int.reduceAdd, Int.reduceSub, Int.reduceLT, Int.reduceLE, Int.reduceEq, Int.reduceNeg, ↓reduceIte, if_true, if_false, Bool.false_eq_true, Bool.not_true, Bool.not_false, List.length_cons, List.length_nil, List.length_singleton, reduceCtorEq, Int.toNat_natCast, Nat.zero_add, Nat.add_zero, Int.add_sub_cancel, eq_self, List.drop_zero, List.drop_succ_cons, Option.some.injEq, Prod.mk.injEq, mkFnA, Bool.and_true, Bool.true_and, Bool.and_self, c30l0, hbox2, hbox3, hg, ht3.v.len, mkFnA, ← hH3, hodd, happ]) | (refine does_goI_dec (fun _ => ?_) (fun _ => ?_)) | (refine does_goG_dec (fun _ => ?_) (fun _ => ?_)) | (refine does_goI (fun _ => ?_) (fun _ => ?_)) | (refine does_goG (fun _ => ?_) (fun _ => ?_)))
              refine ⟨_, ?_, k + 1, _, _, _, rfl, hlt, by simp; rfl, rfl, ((hx3.push _ (by omega)).delO (by omega)).push _ (by omega), by omega, ?_⟩
              · omega
              · have e : sel (placeP V) (k + 1) = sel (placeP V) k ++ [(k : Int)] := by simp [sel, hcp]
                rw [e, List.map_append, List.length_append]
                exact Own.grown (by simp) (by omega) (by omega)
          · have : k = (q + 1).toNat := by omega
            subst this
            have hrB := hu.rdI (old := oldOf w) rfl
            repeat' (first | (simp (disch := first | omega | assumption |  exact callP_old _ _ _ _ _ | exact one_int _ _ | exact one_bool _ | exact one_string _ | exact one_slice _ _ _ | exact one_pointer _ | exact hget_push_one _ _ _ _ (by omega) | (simp only [List.length_map, List.length_set, List.length_replicate, List.length_cons, List.length_nil]; omega) | (rw [hget_push_lt _ _ _ _ (by omega)]; first | assumption | exact hget_push_one _ _ _ _ (by omega))) only [WW0, WW1, WW2, WW3, WW4, WW5, WW6, WW7, Option.map_some, args0, slotsL, opdsA, List.cons_append, List.nil_append, List.map_cons, List.map_nil, List.append_nil, Option.toList_some, Option.toList_none, Nat.reduceEqDiff, Nat.reduceLT, Nat.reduceAdd, Nat.reduceBEq, Int.reduceAdd, Int.reduceSub, Int.reduceLT, Int.reduceLE, Int.reduceEq, Int.reduceNeg, ↓reduceIte, if_true, if_false, Bool.false_eq_true, Bool.not_true, Bool.not_false, List.length_cons, List.length_nil, List.length_singleton, reduceCtorEq, Int.toNat_natCast, Nat.zero_add, Nat.add_zero, Int.add_sub_cancel, eq_self, List.drop_zero, List.drop_succ_cons, Option.some.injEq, Prod.mk.injEq, mkFnA, Bool.and_true, Bool.true_and, Bool.and_self, c30l0]) | (refine does_goI_dec (fun _ => ?_) (fun _ => ?_)) | (refine does_goG_dec (fun _ => ?_) (fun _ => ?_)) | (refine does_goI (fun _ => ?_) (fun _ => ?_)) | (refine does_goG (fun _ => ?_) (fun _ => ?_)))
            refine ⟨_, _, _, _, by simp [wrongE, hv, tupleOf]; exact ⟨rfl, rfl⟩, rfl, hx0.trans ((hx1.trans hy1 (by omega))) (by omega), by omega, ?_, ?_, ?_, ?_, ?_, ?_⟩
            · simp only [wrongA, hv, if_true]; exact hrA.hx hy1 hbd
            · simp only [wrongB, hv, if_true]; exact hrB
            · omega
            · exact hbd2
            · simp only [wrongA, hv, if_true]; exact ho.fs (by omega)
            · simp only [wrongB, hv, if_true]; exact hu.fs (by omega)
  obtain ⟨v, s', hc, a, b, h', n', rfl, rfl, hq⟩ := key
  exact ⟨a, b, h', n', hc, hq⟩
end
end Go.Proofs.YtepdkmdcainddaaDoor
-- lib2
namespace Go.Proofs.YtepdkmdcainddaaDoor
open Go Go.Itp
set_option linter.unusedSimpArgs false
set_option linter.unusedVariables false
set_option maxRecDepth 100000
set_option maxHeartbeats 1000000
attribute [local irreducible] Does

theorem zchain : expand [(1, .int .i64 0), (1, .slice none 0 0)] = [.int .i64 0, .slice none 0 0] := rfl
theorem zgrid : expand [(2, .int .i64 0), (1, .slice none 0 0)] = [.int .i64 0, .int .i64 0, .slice none 0 0] := rfl
/-! ### Decode -/
def bitsTo (q : Nat) (V : List (List Bool)) (k : Nat) : List Bool := (List.range k).flatMap fun y => V[y]!.take q
theorem bitsTo_succ (q : Nat) (V : List (List Bool)) (k : Nat) : bitsTo q V (k + 1) = bitsTo q V k ++ V[k]!.take q := by simp [bitsTo, List.range_succ]
theorem bitsTo_len {q : Nat} {V : List (List Bool)} (hV : ∀ k, k < V.length → q ≤ V[k]!.length) : ∀ k, k ≤ V.length → (bitsTo q V k).length = k * q
  | 0, _ => by simp [bitsTo]
  | k + 1, hk => by
    have := hV k (by omega)
    rw [bitsTo_succ, List.length_append, bitsTo_len hV k (by omega), List.length_take, Nat.min_eq_left this, Nat.succ_mul]
theorem take_get {α : Type} [Inhabited α] (l : List α) (n i : Nat) (h : i < n) (hn : n ≤ l.length) : (l.take n)[i]! = l[i]! := by
  rw [getElem!_pos (l.take n) i (by simp; omega), getElem!_pos l i (by omega)]; simp
def decOK (q : Int) (V : List (List Bool)) : Bool := decide (wrongE q V = 0 ∧ wrongA q V = [] ∧ wrongB q V = [])
def decE (q : Int) (V : List (List Bool)) : Int := if wrongE q V = 0 then (if wrongA q V = [] ∧ wrongB q V = [] then 0 else 30) else wrongE q V
/-- the grid that is returned -/
structure GR (w : World) (h : Heap) (nx : Nat) (q : Int) (V : List (List Bool)) (g : Value) : Prop where
  is : ∃ (a b : Int) (v : Value), g = .agg [.int .i64 a, .int .i64 b, v].toArray ∧ bidN v ≤ nx ∧
    (if decE q V = 0 then a = q ∧ b = V.length - 1 ∧ Rd (oldOf w) h Value.bool v (bitsTo q.toNat V (V.length - 1)) else a = 0 ∧ b = 0 ∧ Rd (oldOf w) h Value.bool v [])
section
variable (w : World) (n : Nat) {vC : Value} {rs : List Value} {V : List (List Bool)} {h : Heap} {nx p : Nat}
theorem decode_w (t : CB w h nx vC rs V) (q : Int) (hq : -9223372036854775808 ≤ q ∧ q ≤ 9223372036854775807) (hp : p ≤ nx) :
    ∃ (g : Value) (h' : Heap) (n' : Nat), (EN w (n + 6)).wcall 24 [.agg [.int .i64 q, vC].toArray] ⟨h, nx, p⟩ = some (.tuple [g, .int .i64 (decE q V)].toArray, ⟨h', n', p⟩) ∧
      HX nx h h' ∧ nx ≤ n' ∧ GR w h' n' q V g := by
  have key : ∃ v s', (EN w (n + 6)).wcall 24 [.agg [.int .i64 q, vC].toArray] ⟨h, nx, p⟩ = some (v, s') ∧ (∃ (g : Value) (h' : Heap) (n' : Nat), v = .tuple [g, .int .i64 (decE q V)].toArray ∧ s' = ⟨h', n', p⟩ ∧
      HX nx h h' ∧ nx ≤ n' ∧ GR w h' n' q V g) := by
    refine wcall_ex rfl (Nat.le_of_ble_eq_true rfl) ?_
    have t' := (t.push [⟨[.int .i64 q, vC], 1, false, 34⟩] (nx' := nx + 1) (by omega)).push [⟨[.int .i64 0, .int .i64 0, .slice none 0 0], 1, false, 24⟩] (nx' := nx + 1 + 1) (by omega)
    have hx0 : HX nx h (hpush (hpush h nx [⟨[.int .i64 q, vC], 1, false, 34⟩]) (nx + 1) [⟨[.int .i64 0, .int .i64 0, .slice none 0 0], 1, false, 24⟩]) := ((HX.refl _ _).push _ (Nat.le_refl _)).push _ (by omega)
    have hlen := t.len
    have hlv := t.lv
    obtain ⟨a, b, h1, n1, hc, hx1, hn1, hrA, hrB, hbA, hbB, hfA, hfB⟩ := wrong_w w n t' q hq (p := p) (by omega)
    have himp := fun xs s => imp (n + 4) 30 xs s w rfl
    have hgrid : hget h1 (nx + 1) = some ⟨[.int .i64 0, .int .i64 0, .slice none 0 0], 1, false, 24⟩ := by rw [hx1 _ (by omega)]; exact hget_push_one _ _ _ _ rfl
    have hbox : hget h1 nx = some ⟨[.int .i64 q, vC], 1, false, 34⟩ := by rw [hx1 _ (by omega), hget_push_lt _ _ _ _ (by omega)]; exact hget_push_one _ _ _ _ rfl
    have ht1 := t'.hx hx1 hn1
    have hx01 : HX nx h h1 := hx0.trans hx1 (by omega)
    cases hv : validS q V
    · have he : ¬ wrongE q V = 0 := by simp [wrongE, hv]
      have hd : ¬ decE q V = 0 := by simp [decE, he]
      repeat' (first | (simp (disch := first | omega | assumption | (exact id (by with_unfolding_all rfl)) | ((refine all_cons _ _ (by first | assumption | exact id (by with_unfolding_all rfl)) ?_); (repeat' (first | exact List.all_nil | refine all_cons _ _ (by first | assumption | exact id (by with_unfolding_all rfl)) ?_)); done) |  exact callP_old _ _ _ _ _ | exact one_int _ _ | exact one_bool _ | exact one_string _ | exact one_slice _ _ _ | exact one_pointer _ | exact hget_push_one _ _ _ _ (by omega) | (simp only [List.length_map, List.length_set, List.length_replicate, List.length_cons, List.length_nil]; omega) | (rw [hget_push_lt _ _ _ _ (by omega)]; first | assumption | exact hget_push_one _ _ _ _ (by omega))) only [WW0, WW1, WW2, WW3, WW4, WW5, WW6, WW7, Option.map_some, args0, slotsL, opdsA, List.cons_append, List.nil_append, List.map_cons, List.map_nil, List.append_nil, Option.toList_some, Option.toList_none, Nat.reduceEqDiff, Nat.reduceLT, Nat.reduceAdd, Nat.reduceBEq, Int.reduceAdd, Int.reduceSub, Int.reduceLT, Int.reduceLE, Int.reduceEq, Int.reduceNeg, ↓reduceIte, if_true, if_false, Bool.false_eq_true, Bool.not_true, Bool.not_false, List.length_cons, List.length_nil, List.length_singleton, reduceCtorEq, Int.toNat_natCast, Nat.zero_add, Nat.add_zero, Int.add_sub_cancel, eq_self, List.drop_zero, List.drop_succ_cons, Option.some.injEq, Prod.mk.injEq, mkFnA, Bool.and_true, Bool.true_and, Bool.and_self, zchain, zgrid, himp, hc, hgrid]) | (refine does_goI_dec (fun _ => ?_) (fun _ => ?_)) | (refine does_goG_dec (fun _ => ?_) (fun _ => ?_)) | (refine does_goI (fun _ => ?_) (fun _ => ?_)) | (refine does_goG (fun _ => ?_) (fun _ => ?_)))
      exact ⟨_, _, _, by simp [decE, he, tupleOf]; rfl, rfl, hx01.set _ (by omega), by omega, ⟨0, 0, _, rfl, by simp [bidN, bidA], by rw [if_neg hd]; exact ⟨rfl, rfl, Rd.nil⟩⟩⟩
    have he : wrongE q V = 0 := by simp [wrongE, hv]
    obtain ⟨v1, v2, v3, v4, v5⟩ := valid_out hv
    have hla := sel_le (cardP V) V.length
    have hlb := sel_le (placeP V) (q + 1).toNat
    have hA : wrongA q V = sel (cardP V) V.length := by simp [wrongA, hv]
    have hB : wrongB q V = sel (placeP V) (q + 1).toNat := by simp [wrongB, hv]
    rw [← hA] at hla
    rw [← hB] at hlb
    by_cases hz : 0 < (wrongA q V).length + (wrongB q V).length
    · have hd : decE q V = 30 := by
        simp only [decE, he, if_true]
        rw [if_neg]
        rintro ⟨e1, e2⟩
        rw [e1, e2] at hz; simp at hz
      repeat' (first | (simp (disch := first | omega | assumption | (exact id (by with_unfolding_all rfl)) | ((refine all_cons _ _ (by first | assumption | exact id (by with_unfolding_all rfl)) ?_); (repeat' (first | exact List.all_nil | refine all_cons _ _ (by first | assumption | exact id (by with_unfolding_all rfl)) ?_)); done) |  exact callP_old _ _ _ _ _ | exact one_int _ _ | exact one_bool _ | exact one_string _ | exact one_slice _ _ _ | exact one_pointer _ | exact hget_push_one _ _ _ _ (by omega) | (simp only [List.length_map, List.length_set, List.length_replicate, List.length_cons, List.length_nil]; omega) | (rw [hget_push_lt _ _ _ _ (by omega)]; first | assumption | exact hget_push_one _ _ _ _ (by omega))) only [WW0, WW1, WW2, WW3, WW4, WW5, WW6, WW7, Option.map_some, args0, slotsL, opdsA, List.cons_append, List.nil_append, List.map_cons, List.map_nil, List.append_nil, Option.toList_some, Option.toList_none, Nat.reduceEqDiff, Nat.reduceLT, Nat.reduceAdd, Nat.reduceBEq, Int.reduceAdd, Int.reduceSub, Int.reduceLT, Int.reduceLE, Int.reduceEq, Int.reduceNeg, ↓reduceIte, if_true, if_false, Bool.false_eq_true, Bool.not_true, Bool.not_false, List.length_cons, List.length_nil, List.length_singleton, reduceCtorEq, Int.toNat_natCast, Nat.zero_add, Nat.add_zero, Int.add_sub_cancel, eq_self, List.drop_zero, List.drop_succ_cons, Option.some.injEq, Prod.mk.injEq, mkFnA, Bool.and_true, Bool.true_and, Bool.and_self, zchain, zgrid, himp, hc, hgrid, hrA.len, hrB.len]) | (refine does_goI_dec (fun _ => ?_) (fun _ => ?_)) | (refine does_goG_dec (fun _ => ?_) (fun _ => ?_)) | (refine does_goI (fun _ => ?_) (fun _ => ?_)) | (refine does_goG (fun _ => ?_) (fun _ => ?_)))
      exact ⟨_, _, _, by simp [hd, tupleOf]; rfl, rfl, hx01.set _ (by omega), by omega, ⟨0, 0, _, rfl, by simp [bidN, bidA], by rw [if_neg (by rw [hd]; decide)]; exact ⟨rfl, rfl, Rd.nil⟩⟩⟩
    have hd : decE q V = 0 := by
      simp only [decE, he, if_true]
      rw [if_pos ⟨List.length_eq_zero_iff.1 (by omega), List.length_eq_zero_iff.1 (by omega)⟩]
    obtain ⟨u, hu1, hu2, hu3⟩ := ht1.v.slcHi .i64 ((V.length : Int) - 1) (by omega) (by omega) (by omega)
    obtain ⟨K, hK⟩ : ∃ K, K = V.length - 1 := ⟨_, rfl⟩
    obtain ⟨Q, hQ⟩ : ∃ Q, Q = q.toNat := ⟨_, rfl⟩
    have hKi : (V.length : Int) - 1 = K := by omega
    have hqi : q = Q := by omega
    rw [show ((V.length : Int) - 1).toNat = K by omega] at hu2
    have hlT : (rs.take K).length = K := by rw [List.length_take]; omega
    have hbl := bitsTo_len (q := Q) (V := V) fun k hk => by have := v5 k hk; omega
    have hbv := ht1.bv
    repeat' (first | (simp (disch := first | omega | assumption | (exact id (by with_unfolding_all rfl)) | ((refine all_cons _ _ (by first | assumption | exact id (by with_unfolding_all rfl)) ?_); (repeat' (first | exact List.all_nil | refine all_cons _ _ (by first | assumption | exact id (by with_unfolding_all rfl)) ?_)); done) |  exact callP_old _ _ _ _ _ | exact one_int _ _ | exact one_bool _ | exact one_string _ | exact one_slice _ _ _ | exact one_pointer _ | exact hget_push_one _ _ _ _ (by omega) | (simp only [List.length_map, List.length_set, List.length_replicate, List.length_cons, List.length_nil]; omega) | (rw [hget_push_lt _ _ _ _ (by omega)]; first | assumption | exact hget_push_one _ _ _ _ (by omega))) only [WW0, WW1, WW2, WW3, WW4, WW5, WW6, WW7, Option.map_some, args0, slotsL, opdsA, List.cons_append, List.nil_append, List.map_cons, List.map_nil, List.append_nil, Option.toList_some, Option.toList_none, Nat.reduceEqDiff, Nat.reduceLT, Nat.reduceAdd, Nat.reduceBEq, Int.reduceAdd, Int.reduceSub, Int.reduceLT, Int.reduceLE, Int.reduceEq, Int.reduceNeg, ↓reduceIte, if_true, if_false, Bool.false_eq_true, Bool.not_true, Bool.not_false, List.length_cons, List.length_nil, List.length_singleton, reduceCtorEq, Int.toNat_natCast, Nat.zero_add, Nat.add_zero, Int.add_sub_cancel, eq_self, List.drop_zero, List.drop_succ_cons, Option.some.injEq, Prod.mk.injEq, mkFnA, Bool.and_true, Bool.true_and, Bool.and_self, zchain, zgrid, himp, hc, hgrid, hbox, hrA.len, hrB.len, ht1.v.len, hlen, hu1, hu2.len, hlT]) | (refine does_goI_dec (fun _ => ?_) (fun _ => ?_)) | (refine does_goG_dec (fun _ => ?_) (fun _ => ?_)) | (refine does_goI (fun _ => ?_) (fun _ => ?_)) | (refine does_goG (fun _ => ?_) (fun _ => ?_)))
    refine does_while (fun m fr t => ∃ (k : Nat) (v : Value) (h2 : Heap) (n2 : Nat), m = K - k ∧ k ≤ K ∧ fr = [(2, .pointer (some ⟨nx + 1, 0, some 0⟩)), (7, .pointer (some ⟨n1, 0, some 0⟩)), (38, u), (39, .int .i64 K), (40, .int .i64 k)] ∧ t = ⟨h2, n2, p⟩ ∧
      HX n1 h1 h2 ∧ n1 + 1 ≤ n2 ∧ hget h2 n1 = some ⟨[.int .i64 q, .int .i64 ((V.length : Int) - 1), v], 1, false, 24⟩ ∧ Own (n1 + 1) ⟨h2, n2, p⟩ 4 1 v (bitsTo Q V k).length ((bitsTo Q V k).map Value.bool)) (m := K) ?_ ?_ ?_
    · refine ⟨0, _, _, _, (Nat.sub_zero _).symm, Nat.zero_le _, rfl, rfl, ((HX.refl _ _).push _ (Nat.le_refl _)).set _ (Nat.le_refl _), Nat.le_refl _, by rw [hget_set_self, hget_push_one _ _ _ _ rfl]; rfl, Own.nil⟩
    · simp (disch := first | omega | assumption | (exact id (by with_unfolding_all rfl)) | ((refine all_cons _ _ (by first | assumption | exact id (by with_unfolding_all rfl)) ?_); (repeat' (first | exact List.all_nil | refine all_cons _ _ (by first | assumption | exact id (by with_unfolding_all rfl)) ?_)); done) |  exact callP_old _ _ _ _ _ | exact one_int _ _ | exact one_bool _ | exact one_string _ | exact one_slice _ _ _ | exact one_pointer _ | exact hget_push_one _ _ _ _ (by omega) | (simp only [List.length_map, List.length_set, List.length_replicate, List.length_cons, List.length_nil]; omega) | (rw [hget_push_lt _ _ _ _ (by omega)]; first | assumption | exact hget_push_one _ _ _ _ (by omega))) only [WW0, WW1, WW2, WW3, WW4, WW5, WW6, WW7, Option.map_some, args0, slotsL, opdsA, List.cons_append, List.nil_append, List.map_cons, List.map_nil, List.append_nil, Option.toList_some, Option.toList_none, Nat.reduceEqDiff, Nat.reduceLT, Nat.reduceAdd, Nat.reduceBEq, Int.reduceAdd, Int.reduceSub, Int.reduceLT, Int.reduceLE, Int.reduceEq, Int.reduceNeg, ↓reduceIte, if_true, if_false, Bool.false_eq_true, Bool.not_true, Bool.not_false, List.length_cons, List.length_nil, List.length_singleton, reduceCtorEq, Int.toNat_natCast, Nat.zero_add, Nat.add_zero, Int.add_sub_cancel, eq_self, List.drop_zero, List.drop_succ_cons, Option.some.injEq, Prod.mk.injEq, mkFnA, Bool.and_true, Bool.true_and, Bool.and_self]
      unfold many; omega
    · rintro m fr tt ⟨k, v, h2, n2, rfl, hk, rfl, rfl, hy1, hm1, h7, ho⟩
      have ht2 := ht1.hx hy1 (nx' := n2) (by omega)
      have hb2 := ho.bid2
      have hbd := ho.bid
      simp only at hbd
      have hu2' := hu2.hx hy1 (by omega)
      by_cases hlt : k < K
      · have hr := ht2.r k (by omega)
        have hbk := hbl k (by omega)
        have hbk1 : k * Q ≤ 65 * 40 := Nat.mul_le_mul (by omega) (by omega)
        have hge := take_get rs K k hlt (by omega)
        have hone := hr.one
        obtain ⟨c, hc1, hc2, hc3⟩ := hr.slcHi .i64 q (by have := v5 k (by omega); omega) (by omega) (by have := v5 k (by omega); omega)
        rw [← hQ] at hc2
        have hlc : (V[k]!.take Q).length = Q := by have := v5 k (by omega); rw [List.length_take]; omega
        have happ := ho.appRd (E := EN w (n + 5)) (f := Value.bool) (y := c) (b := 1) (by rw [callP_old]; exact hc2) (by omega) (fun _ => rfl) (by omega) (by omega)
        have hbrk := ht2.br k (by omega)
        repeat' (first | (simp (disch := first | omega | assumption | (exact id (by with_unfolding_all rfl)) | ((refine all_cons _ _ (by first | assumption | exact id (by with_unfolding_all rfl)) ?_); (repeat' (first | exact List.all_nil | refine all_cons _ _ (by first | assumption | exact id (by with_unfolding_all rfl)) ?_)); done) |  exact callP_old _ _ _ _ _ | exact one_int _ _ | exact one_bool _ | exact one_string _ | exact one_slice _ _ _ | exact one_pointer _ | exact hget_push_one _ _ _ _ (by omega) | (simp only [List.length_map, List.length_set, List.length_replicate, List.length_cons, List.length_nil]; omega) | (rw [hget_push_lt _ _ _ _ (by omega)]; first | assumption | exact hget_push_one _ _ _ _ (by omega))) only [WW0, WW1, WW2, WW3, WW4, WW5, WW6, WW7, Option.map_some, args0, slotsL, opdsA, List.cons_append, List.nil_append, List.map_cons, List.map_nil, List.append_nil, Option.toList_some, Option.toList_none, Nat.reduceEqDiff, Nat.reduceLT, Nat.reduceAdd, Nat.reduceBEq, Int.reduceAdd, Int.reduceSub, Int.reduceLT, Int.reduceLE, Int.reduceEq, Int.reduceNeg, ↓reduceIte, if_true, if_false, Bool.false_eq_true, Bool.not_true, Bool.not_false, List.length_cons, List.length_nil, List.length_singleton, reduceCtorEq, Int.toNat_natCast, Nat.zero_add, Nat.add_zero, Int.add_sub_cancel, eq_self, List.drop_zero, List.drop_succ_cons, Option.some.injEq, Prod.mk.injEq, mkFnA, Bool.and_true, Bool.true_and, Bool.and_self, c24l0, hu2'.idx, hu2'.load, hge, h7, hc1, happ, hget_delO]) | (refine does_goI_dec (fun _ => ?_) (fun _ => ?_)) | (refine does_goG_dec (fun _ => ?_) (fun _ => ?_)) | (refine does_goI (fun _ => ?_) (fun _ => ?_)) | (refine does_goG (fun _ => ?_) (fun _ => ?_)))
        refine ⟨_, ?_, k + 1, _, _, _, rfl, hlt, by simp, rfl, ?_, by omega, by rw [hget_set_self, hget_push_lt _ _ _ _ (by omega), hget_delO _ _ _ (by omega), h7]; rfl, ?_⟩
        · omega
        · exact (((hy1.delO (by omega)).push _ (by omega)).set _ (Nat.le_refl _))
        · rw [bitsTo_succ, List.map_append, List.length_append]
          exact (Own.grown (by simp) (by omega) (by omega)).to (by simp) rfl fun i hi => by
            simp only [bidN, bidA] at hi
            exact hget_set_ne _ _ _ _ (by omega)
      · have : k = K := by omega
        subst this
        have hgrid2 : hget h2 (nx + 1) = some ⟨[.int .i64 0, .int .i64 0, .slice none 0 0], 1, false, 24⟩ := by rw [hy1 _ (by omega)]; exact hgrid
        have hv1 := (ho.rd (f := Value.bool) (old := oldOf w)).one
        repeat' (first | (simp (disch := first | omega | assumption | (exact id (by with_unfolding_all rfl)) | ((refine all_cons _ _ (by first | assumption | exact id (by with_unfolding_all rfl)) ?_); (repeat' (first | exact List.all_nil | refine all_cons _ _ (by first | assumption | exact id (by with_unfolding_all rfl)) ?_)); done) |  exact callP_old _ _ _ _ _ | exact one_int _ _ | exact one_bool _ | exact one_string _ | exact one_slice _ _ _ | exact one_pointer _ | exact hget_push_one _ _ _ _ (by omega) | (simp only [List.length_map, List.length_set, List.length_replicate, List.length_cons, List.length_nil]; omega) | (rw [hget_push_lt _ _ _ _ (by omega)]; first | assumption | exact hget_push_one _ _ _ _ (by omega))) only [WW0, WW1, WW2, WW3, WW4, WW5, WW6, WW7, Option.map_some, args0, slotsL, opdsA, List.cons_append, List.nil_append, List.map_cons, List.map_nil, List.append_nil, Option.toList_some, Option.toList_none, Nat.reduceEqDiff, Nat.reduceLT, Nat.reduceAdd, Nat.reduceBEq, Int.reduceAdd, Int.reduceSub, Int.reduceLT, Int.reduceLE, Int.reduceEq, Int.reduceNeg, ↓reduceIte, if_true, if_false, Bool.false_eq_true, Bool.not_true, Bool.not_false, List.length_cons, List.length_nil, List.length_singleton, reduceCtorEq, Int.toNat_natCast, Nat.zero_add, Nat.add_zero, Int.add_sub_cancel, eq_self, List.drop_zero, List.drop_succ_cons, Option.some.injEq, Prod.mk.injEq, mkFnA, Bool.and_true, Bool.true_and, Bool.and_self, c24l0, h7, hgrid2]) | (refine does_goI_dec (fun _ => ?_) (fun _ => ?_)) | (refine does_goG_dec (fun _ => ?_) (fun _ => ?_)) | (refine does_goI (fun _ => ?_) (fun _ => ?_)) | (refine does_goG (fun _ => ?_) (fun _ => ?_)))
        refine ⟨_, _, _, by simp [hd, tupleOf], rfl, (hx01.trans hy1 (by omega)).set _ (by omega), by omega, ⟨q, (V.length : Int) - 1, v, rfl, by omega, ?_⟩⟩
        rw [if_pos hd]
        refine ⟨rfl, by omega, ?_⟩
        rw [← hQ, ← hK]
        exact (ho.rd (f := Value.bool) (old := oldOf w)).set _ (by omega)
  obtain ⟨v, s', hc, g, h', n', rfl, rfl, hq⟩ := key
  exact ⟨g, h', n', hc, hq⟩
end
end Go.Proofs.YtepdkmdcainddaaDoor
-- lib2
namespace Go.Proofs.YtepdkmdcainddaaDoor
open Go Go.Itp
set_option linter.unusedSimpArgs false
set_option linter.unusedVariables false
set_option maxRecDepth 100000
set_option maxHeartbeats 1000000
attribute [local irreducible] Does

theorem same_p (w : World) (n : Nat) {u v : Value} {l m : List Int} {h : Heap} {nx p : Nat} (hu : Rd (oldOf w) h vI u l) (hv : Rd (oldOf w) h vI v m) (hl : l.length ≤ 1000000) (hm : m.length ≤ 1000000) :
    (EN w (n + 1)).pcall 46 [u, v] ⟨h, nx, p⟩ = some (.bool (decide (l = m)), []) := by
  refine pcall_eq rfl rfl (Nat.le_of_ble_eq_true rfl) ?_
  by_cases hlen : l.length = m.length
  · simp (disch := first | omega | assumption | (exact id (by with_unfolding_all rfl)) | ((refine all_cons _ _ (by first | assumption | exact id (by with_unfolding_all rfl)) ?_); (repeat' (first | exact List.all_nil | refine all_cons _ _ (by first | assumption | exact id (by with_unfolding_all rfl)) ?_)); done) |  exact callP_old _ _ _ _ _ | exact one_int _ _ | exact one_bool _ | exact one_string _ | exact one_slice _ _ _ | exact one_pointer _ | exact hget_push_one _ _ _ _ (by omega) | (simp only [List.length_map, List.length_set, List.length_replicate, List.length_cons, List.length_nil]; omega) | (rw [hget_push_lt _ _ _ _ (by omega)]; first | assumption | exact hget_push_one _ _ _ _ (by omega))) only [WW0, WW1, WW2, WW3, WW4, WW5, WW6, WW7, Option.map_some, args0, slotsL, opdsA, List.cons_append, List.nil_append, List.map_cons, List.map_nil, List.append_nil, Option.toList_some, Option.toList_none, Nat.reduceEqDiff, Nat.reduceLT, Nat.reduceAdd, Nat.reduceBEq, Int.reduceAdd, Int.reduceSub, Int.reduceLT, Int.reduceLE, Int.reduceEq, Int.reduceNeg, ↓reduceIte, if_true, if_false, Bool.false_eq_true, Bool.not_true, Bool.not_false, List.length_cons, List.length_nil, List.length_singleton, reduceCtorEq, Int.toNat_natCast, Nat.zero_add, Nat.add_zero, Int.add_sub_cancel, eq_self, List.drop_zero, List.drop_succ_cons, Option.some.injEq, Prod.mk.injEq, mkFnA, Bool.and_true, Bool.true_and, Bool.and_self, hu.len, hv.len]
    refine does_while (fun q fr t => ∃ k : Nat, q = l.length - k ∧ k ≤ l.length ∧ fr = [(0, u), (1, v), (5, .int .i64 k)] ∧ t = ⟨h, nx, nx⟩ ∧ ∀ j, j < k → l[j]! = m[j]!) (m := l.length) ?_ ?_ ?_
    · exact ⟨0, by omega, by omega, rfl, rfl, by omega⟩
    · simp (disch := first | omega | assumption | (exact id (by with_unfolding_all rfl)) | ((refine all_cons _ _ (by first | assumption | exact id (by with_unfolding_all rfl)) ?_); (repeat' (first | exact List.all_nil | refine all_cons _ _ (by first | assumption | exact id (by with_unfolding_all rfl)) ?_)); done) |  exact callP_old _ _ _ _ _ | exact one_int _ _ | exact one_bool _ | exact one_string _ | exact one_slice _ _ _ | exact one_pointer _ | exact hget_push_one _ _ _ _ (by omega) | (simp only [List.length_map, List.length_set, List.length_replicate, List.length_cons, List.length_nil]; omega) | (rw [hget_push_lt _ _ _ _ (by omega)]; first | assumption | exact hget_push_one _ _ _ _ (by omega))) only [WW0, WW1, WW2, WW3, WW4, WW5, WW6, WW7, Option.map_some, args0, slotsL, opdsA, List.cons_append, List.nil_append, List.map_cons, List.map_nil, List.append_nil, Option.toList_some, Option.toList_none, Nat.reduceEqDiff, Nat.reduceLT, Nat.reduceAdd, Nat.reduceBEq, Int.reduceAdd, Int.reduceSub, Int.reduceLT, Int.reduceLE, Int.reduceEq, Int.reduceNeg, ↓reduceIte, if_true, if_false, Bool.false_eq_true, Bool.not_true, Bool.not_false, List.length_cons, List.length_nil, List.length_singleton, reduceCtorEq, Int.toNat_natCast, Nat.zero_add, Nat.add_zero, Int.add_sub_cancel, eq_self, List.drop_zero, List.drop_succ_cons, Option.some.injEq, Prod.mk.injEq, mkFnA, Bool.and_true, Bool.true_and, Bool.and_self]
      unfold many; omega
    · rintro q fr t ⟨k, rfl, hk, rfl, rfl, hj⟩
      repeat' (first | (simp (disch := first | omega | assumption | (exact id (by with_unfolding_all rfl)) | ((refine all_cons _ _ (by first | assumption | exact id (by with_unfolding_all rfl)) ?_); (repeat' (first | exact List.all_nil | refine all_cons _ _ (by first | assumption | exact id (by with_unfolding_all rfl)) ?_)); done) |  exact callP_old _ _ _ _ _ | exact one_int _ _ | exact one_bool _ | exact one_string _ | exact one_slice _ _ _ | exact one_pointer _ | exact hget_push_one _ _ _ _ (by omega) | (simp only [List.length_map, List.length_set, List.length_replicate, List.length_cons, List.length_nil]; omega) | (rw [hget_push_lt _ _ _ _ (by omega)]; first | assumption | exact hget_push_one _ _ _ _ (by omega))) only [WW0, WW1, WW2, WW3, WW4, WW5, WW6, WW7, Option.map_some, args0, slotsL, opdsA, List.cons_append, List.nil_append, List.map_cons, List.map_nil, List.append_nil, Option.toList_some, Option.toList_none, Nat.reduceEqDiff, Nat.reduceLT, Nat.reduceAdd, Nat.reduceBEq, Int.reduceAdd, Int.reduceSub, Int.reduceLT, Int.reduceLE, Int.reduceEq, Int.reduceNeg, ↓reduceIte, if_true, if_false, Bool.false_eq_true, Bool.not_true, Bool.not_false, List.length_cons, List.length_nil, List.length_singleton, reduceCtorEq, Int.toNat_natCast, Nat.zero_add, Nat.add_zero, Int.add_sub_cancel, eq_self, List.drop_zero, List.drop_succ_cons, Option.some.injEq, Prod.mk.injEq, mkFnA, Bool.and_true, Bool.true_and, Bool.and_self, c46l0, hu.len, hu.idx, hu.load, hv.len, hv.idx, hv.load, vI]) | (refine does_goI_dec (fun _ => ?_) (fun _ => ?_)) | (refine does_goG_dec (fun _ => ?_) (fun _ => ?_)) | (refine does_goI (fun _ => ?_) (fun _ => ?_)) | (refine does_goG (fun _ => ?_) (fun _ => ?_)))
      · rename_i h1 h2
        exact (decide_no fun e => h2 (by rw [e])).symm
      · rename_i h1 h2
        refine ⟨_, ?_, k + 1, rfl, by omega, by simp, fun j hj' => ?_⟩
        · omega
        · rcases Nat.lt_succ_iff_lt_or_eq.1 hj' with h' | rfl
          · exact hj j h'
          · exact Decidable.not_not.1 h2
      · rename_i h1
        refine (decide_yes (List.ext_getElem hlen ?_)).symm
        intro j h2 h3
        have := hj j (by omega)
        rwa [getElem!_pos l j h2, getElem!_pos m j h3] at this
  · repeat' (first | (simp (disch := first | omega | assumption | (exact id (by with_unfolding_all rfl)) | ((refine all_cons _ _ (by first | assumption | exact id (by with_unfolding_all rfl)) ?_); (repeat' (first | exact List.all_nil | refine all_cons _ _ (by first | assumption | exact id (by with_unfolding_all rfl)) ?_)); done) |  exact callP_old _ _ _ _ _ | exact one_int _ _ | exact one_bool _ | exact one_string _ | exact one_slice _ _ _ | exact one_pointer _ | exact hget_push_one _ _ _ _ (by omega) | (simp only [List.length_map, List.length_set, List.length_replicate, List.length_cons, List.length_nil]; omega) | (rw [hget_push_lt _ _ _ _ (by omega)]; first | assumption | exact hget_push_one _ _ _ _ (by omega))) only [WW0, WW1, WW2, WW3, WW4, WW5, WW6, WW7, Option.map_some, args0, slotsL, opdsA, List.cons_append, List.nil_append, List.map_cons, List.map_nil, List.append_nil, Option.toList_some, Option.toList_none, Nat.reduceEqDiff, Nat.reduceLT, Nat.reduceAdd, Nat.reduceBEq, Int.reduceAdd, Int.reduceSub, Int.reduceLT, Int.reduceLE, Int.reduceEq, Int.reduceNeg, ↓reduceIte, if_true, if_false, Bool.false_eq_true, Bool.not_true, Bool.not_false, List.length_cons, List.length_nil, List.length_singleton, reduceCtorEq, Int.toNat_natCast, Nat.zero_add, Nat.add_zero, Int.add_sub_cancel, eq_self, List.drop_zero, List.drop_succ_cons, Option.some.injEq, Prod.mk.injEq, mkFnA, Bool.and_true, Bool.true_and, Bool.and_self, hu.len, hv.len]) | (refine does_goI_dec (fun _ => ?_) (fun _ => ?_)) | (refine does_goG_dec (fun _ => ?_) (fun _ => ?_)) | (refine does_goI (fun _ => ?_) (fun _ => ?_)) | (refine does_goG (fun _ => ?_) (fun _ => ?_)))
    exact (decide_no fun e => hlen (by rw [e])).symm
section
variable (w : World) (n : Nat) {h : Heap} {nx p : Nat}
/-- two grids that read the same -/
theorem same1_p {u v : Value} {a b : Int} {l : List Bool} (hu : Rd (oldOf w) h Value.bool u l) (hv : Rd (oldOf w) h Value.bool v l) (hl : l.length ≤ 1000000) (bu : bidN u ≤ nx) (bv : bidN v ≤ nx) :
    (EN w (n + 1)).pcall 18 [.agg [.int .i64 a, .int .i64 b, u].toArray, .agg [.int .i64 a, .int .i64 b, v].toArray] ⟨h, nx, p⟩ = some (.bool true, []) := by
  refine pcall_eq rfl rfl (Nat.le_of_ble_eq_true rfl) ?_
  obtain ⟨H, hH⟩ : ∃ H, H = hpush (hpush h nx [⟨[.int .i64 a, .int .i64 b, u], 1, false, 24⟩]) (nx + 1) [⟨[.int .i64 a, .int .i64 b, v], 1, false, 24⟩] := ⟨_, rfl⟩
  have hx : HX nx h H := by subst hH; exact ((HX.refl _ _).push _ (Nat.le_refl _)).push _ (by omega)
  have hu' := hu.hx hx bu
  have hv' := hv.hx hx bv
  have g1 : hget H nx = some ⟨[.int .i64 a, .int .i64 b, u], 1, false, 24⟩ := by subst hH; rw [hget_push_lt _ _ _ _ (by omega)]; exact hget_push_one _ _ _ _ rfl
  have g2 : hget H (nx + 1) = some ⟨[.int .i64 a, .int .i64 b, v], 1, false, 24⟩ := by subst hH; exact hget_push_one _ _ _ _ rfl
  repeat' (first | (simp (disch := first | omega | assumption | (exact id (by with_unfolding_all rfl)) | ((refine all_cons _ _ (by first | assumption | exact id (by with_unfolding_all rfl)) ?_); (repeat' (first | exact List.all_nil | refine all_cons _ _ (by first | assumption | exact id (by with_unfolding_all rfl)) ?_)); done) |  exact callP_old _ _ _ _ _ | exact one_int _ _ | exact one_bool _ | exact one_string _ | exact one_slice _ _ _ | exact one_pointer _ | exact hget_push_one _ _ _ _ (by omega) | (simp only [List.length_map, List.length_set, List.length_replicate, List.length_cons, List.length_nil]; omega) | (rw [hget_push_lt _ _ _ _ (by omega)]; first | assumption | exact hget_push_one _ _ _ _ (by omega))) only [WW0, WW1, WW2, WW3, WW4, WW5, WW6, WW7, Option.map_some, args0, slotsL, opdsA, List.cons_append, List.nil_append, List.map_cons, List.map_nil, List.append_nil, Option.toList_some, Option.toList_none, Nat.reduceEqDiff, Nat.reduceLT, Nat.reduceAdd, Nat.reduceBEq, Int.reduceAdd, Int.reduceSub, Int.reduceLT, Int.reduceLE, Int.reduceEq, Int.reduceNeg, ↓reduceIte, if_true, if_false, Bool.false_eq_true, Bool.not_true, Bool.not_false, List.length_cons, List.length_nil, List.length_singleton, reduceCtorEq, Int.toNat_natCast, Nat.zero_add, Nat.add_zero, Int.add_sub_cancel, eq_self, List.drop_zero, List.drop_succ_cons, Option.some.injEq, Prod.mk.injEq, mkFnA, Bool.and_true, Bool.true_and, Bool.and_self, ← hH, g1, g2, hu'.len, hv'.len]) | (refine does_goI_dec (fun _ => ?_) (fun _ => ?_)) | (refine does_goG_dec (fun _ => ?_) (fun _ => ?_)) | (refine does_goI (fun _ => ?_) (fun _ => ?_)) | (refine does_goG (fun _ => ?_) (fun _ => ?_)))
  refine does_while (fun m fr t => ∃ k : Nat, m = l.length - k ∧ k ≤ l.length ∧ fr = [(2, .pointer (some ⟨nx, 0, some 0⟩)), (3, .pointer (some ⟨nx + 1, 0, some 0⟩)), (5, .int .i64 k)] ∧ t = ⟨H, nx + 1 + 1, nx⟩) (m := l.length) ?_ ?_ ?_
  · exact ⟨0, by omega, by omega, rfl, rfl⟩
  · simp (disch := first | omega | assumption | (exact id (by with_unfolding_all rfl)) | ((refine all_cons _ _ (by first | assumption | exact id (by with_unfolding_all rfl)) ?_); (repeat' (first | exact List.all_nil | refine all_cons _ _ (by first | assumption | exact id (by with_unfolding_all rfl)) ?_)); done) |  exact callP_old _ _ _ _ _ | exact one_int _ _ | exact one_bool _ | exact one_string _ | exact one_slice _ _ _ | exact one_pointer _ | exact hget_push_one _ _ _ _ (by omega) | (simp only [List.length_map, List.length_set, List.length_replicate, List.length_cons, List.length_nil]; omega) | (rw [hget_push_lt _ _ _ _ (by omega)]; first | assumption | exact hget_push_one _ _ _ _ (by omega))) only [WW0, WW1, WW2, WW3, WW4, WW5, WW6, WW7, Option.map_some, args0, slotsL, opdsA, List.cons_append, List.nil_append, List.map_cons, List.map_nil, List.append_nil, Option.toList_some, Option.toList_none, Nat.reduceEqDiff, Nat.reduceLT, Nat.reduceAdd, Nat.reduceBEq, Int.reduceAdd, Int.reduceSub, Int.reduceLT, Int.reduceLE, Int.reduceEq, Int.reduceNeg, ↓reduceIte, if_true, if_false, Bool.false_eq_true, Bool.not_true, Bool.not_false, List.length_cons, List.length_nil, List.length_singleton, reduceCtorEq, Int.toNat_natCast, Nat.zero_add, Nat.add_zero, Int.add_sub_cancel, eq_self, List.drop_zero, List.drop_succ_cons, Option.some.injEq, Prod.mk.injEq, mkFnA, Bool.and_true, Bool.true_and, Bool.and_self]
    unfold many; omega
  · rintro m fr tt ⟨k, rfl, hk, rfl, rfl⟩
    by_cases hlt : k < l.length
    · repeat' (first | (simp (disch := first | omega | assumption | (exact id (by with_unfolding_all rfl)) | ((refine all_cons _ _ (by first | assumption | exact id (by with_unfolding_all rfl)) ?_); (repeat' (first | exact List.all_nil | refine all_cons _ _ (by first | assumption | exact id (by with_unfolding_all rfl)) ?_)); done) |  exact callP_old _ _ _ _ _ | exact one_int _ _ | exact one_bool _ | exact one_string _ | exact one_slice _ _ _ | exact one_pointer _ | exact hget_push_one _ _ _ _ (by omega) | (simp only [List.length_map, List.length_set, List.length_replicate, List.length_cons, List.length_nil]; omega) | (rw [hget_push_lt _ _ _ _ (by omega)]; first | assumption | exact hget_push_one _ _ _ _ (by omega))) only [WW0, WW1, WW2, WW3, WW4, WW5, WW6, WW7, Option.map_some, args0, slotsL, opdsA, List.cons_append, List.nil_append, List.map_cons, List.map_nil, List.append_nil, Option.toList_some, Option.toList_none, Nat.reduceEqDiff, Nat.reduceLT, Nat.reduceAdd, Nat.reduceBEq, Int.reduceAdd, Int.reduceSub, Int.reduceLT, Int.reduceLE, Int.reduceEq, Int.reduceNeg, ↓reduceIte, if_true, if_false, Bool.false_eq_true, Bool.not_true, Bool.not_false, List.length_cons, List.length_nil, List.length_singleton, reduceCtorEq, Int.toNat_natCast, Nat.zero_add, Nat.add_zero, Int.add_sub_cancel, eq_self, List.drop_zero, List.drop_succ_cons, Option.some.injEq, Prod.mk.injEq, mkFnA, Bool.and_true, Bool.true_and, Bool.and_self, c18l0, g1, g2, hu'.len, hu'.idx, hu'.load, hv'.idx, hv'.load, beq_self_eq_true]) | (refine does_goI_dec (fun _ => ?_) (fun _ => ?_)) | (refine does_goG_dec (fun _ => ?_) (fun _ => ?_)) | (refine does_goI (fun _ => ?_) (fun _ => ?_)) | (refine does_goG (fun _ => ?_) (fun _ => ?_)))
      refine ⟨_, ?_, k + 1, rfl, hlt, by simp⟩
      omega
    · have : k = l.length := by omega
      subst this
      repeat' (first | (simp (disch := first | omega | assumption | (exact id (by with_unfolding_all rfl)) | ((refine all_cons _ _ (by first | assumption | exact id (by with_unfolding_all rfl)) ?_); (repeat' (first | exact List.all_nil | refine all_cons _ _ (by first | assumption | exact id (by with_unfolding_all rfl)) ?_)); done) |  exact callP_old _ _ _ _ _ | exact one_int _ _ | exact one_bool _ | exact one_string _ | exact one_slice _ _ _ | exact one_pointer _ | exact hget_push_one _ _ _ _ (by omega) | (simp only [List.length_map, List.length_set, List.length_replicate, List.length_cons, List.length_nil]; omega) | (rw [hget_push_lt _ _ _ _ (by omega)]; first | assumption | exact hget_push_one _ _ _ _ (by omega))) only [WW0, WW1, WW2, WW3, WW4, WW5, WW6, WW7, Option.map_some, args0, slotsL, opdsA, List.cons_append, List.nil_append, List.map_cons, List.map_nil, List.append_nil, Option.toList_some, Option.toList_none, Nat.reduceEqDiff, Nat.reduceLT, Nat.reduceAdd, Nat.reduceBEq, Int.reduceAdd, Int.reduceSub, Int.reduceLT, Int.reduceLE, Int.reduceEq, Int.reduceNeg, ↓reduceIte, if_true, if_false, Bool.false_eq_true, Bool.not_true, Bool.not_false, List.length_cons, List.length_nil, List.length_singleton, reduceCtorEq, Int.toNat_natCast, Nat.zero_add, Nat.add_zero, Int.add_sub_cancel, eq_self, List.drop_zero, List.drop_succ_cons, Option.some.injEq, Prod.mk.injEq, mkFnA, Bool.and_true, Bool.true_and, Bool.and_self, c18l0, g1, hu'.len]) | (refine does_goI_dec (fun _ => ?_) (fun _ => ?_)) | (refine does_goG_dec (fun _ => ?_) (fun _ => ?_)) | (refine does_goI (fun _ => ?_) (fun _ => ?_)) | (refine does_goG (fun _ => ?_) (fun _ => ?_)))
/-- two chains that read the same -/
theorem same18_p {vC vD : Value} {rs ss : List Value} {V : List (List Bool)} (q : Int) (t : CB w h nx vC rs V) (u : CB w h nx vD ss V) :
    (EN w (n + 1)).pcall 17 [.agg [.int .i64 q, vC].toArray, .agg [.int .i64 q, vD].toArray] ⟨h, nx, p⟩ = some (.bool true, []) := by
  refine pcall_eq rfl rfl (Nat.le_of_ble_eq_true rfl) ?_
  obtain ⟨H, hH⟩ : ∃ H, H = hpush (hpush h nx [⟨[.int .i64 q, vC], 1, false, 34⟩]) (nx + 1) [⟨[.int .i64 q, vD], 1, false, 34⟩] := ⟨_, rfl⟩
  have hx : HX nx h H := by subst hH; exact ((HX.refl _ _).push _ (Nat.le_refl _)).push _ (by omega)
  have t' := t.hx hx (nx' := nx) (Nat.le_refl _)
  have u' := u.hx hx (nx' := nx) (Nat.le_refl _)
  have hl1 := t.len
  have hl2 := u.len
  have hlv := t.lv
  have g1 : hget H nx = some ⟨[.int .i64 q, vC], 1, false, 34⟩ := by subst hH; rw [hget_push_lt _ _ _ _ (by omega)]; exact hget_push_one _ _ _ _ rfl
  have g2 : hget H (nx + 1) = some ⟨[.int .i64 q, vD], 1, false, 34⟩ := by subst hH; exact hget_push_one _ _ _ _ rfl
  repeat' (first | (simp (disch := first | omega | assumption | (exact id (by with_unfolding_all rfl)) | ((refine all_cons _ _ (by first | assumption | exact id (by with_unfolding_all rfl)) ?_); (repeat' (first | exact List.all_nil | refine all_cons _ _ (by first | assumption | exact id (by with_unfolding_all rfl)) ?_)); done) |  exact callP_old _ _ _ _ _ | exact one_int _ _ | exact one_bool _ | exact one_string _ | exact one_slice _ _ _ | exact one_pointer _ | exact hget_push_one _ _ _ _ (by omega) | (simp only [List.length_map, List.length_set, List.length_replicate, List.length_cons, List.length_nil]; omega) | (rw [hget_push_lt _ _ _ _ (by omega)]; first | assumption | exact hget_push_one _ _ _ _ (by omega))) only [WW0, WW1, WW2, WW3, WW4, WW5, WW6, WW7, Option.map_some, args0, slotsL, opdsA, List.cons_append, List.nil_append, List.map_cons, List.map_nil, List.append_nil, Option.toList_some, Option.toList_none, Nat.reduceEqDiff, Nat.reduceLT, Nat.reduceAdd, Nat.reduceBEq, Int.reduceAdd, Int.reduceSub, Int.reduceLT, Int.reduceLE, Int.reduceEq, Int.reduceNeg, ↓reduceIte, if_true, if_false, Bool.false_eq_true, Bool.not_true, Bool.not_false, List.length_cons, List.length_nil, List.length_singleton, reduceCtorEq, Int.toNat_natCast, Nat.zero_add, Nat.add_zero, Int.add_sub_cancel, eq_self, List.drop_zero, List.drop_succ_cons, Option.some.injEq, Prod.mk.injEq, mkFnA, Bool.and_true, Bool.true_and, Bool.and_self, ← hH, g1, g2, t'.v.len, u'.v.len, hl1, hl2]) | (refine does_goI_dec (fun _ => ?_) (fun _ => ?_)) | (refine does_goG_dec (fun _ => ?_) (fun _ => ?_)) | (refine does_goI (fun _ => ?_) (fun _ => ?_)) | (refine does_goG (fun _ => ?_) (fun _ => ?_)))
  refine does_while (fun m fr t => ∃ k : Nat, m = V.length - k ∧ k ≤ V.length ∧ fr = [(2, .pointer (some ⟨nx, 0, some 0⟩)), (3, .pointer (some ⟨nx + 1, 0, some 0⟩)), (5, .int .i64 k)] ∧ t = ⟨H, nx + 1 + 1, nx⟩) (m := V.length) ?_ ?_ ?_
  · exact ⟨0, by omega, by omega, rfl, rfl⟩
  · simp (disch := first | omega | assumption | (exact id (by with_unfolding_all rfl)) | ((refine all_cons _ _ (by first | assumption | exact id (by with_unfolding_all rfl)) ?_); (repeat' (first | exact List.all_nil | refine all_cons _ _ (by first | assumption | exact id (by with_unfolding_all rfl)) ?_)); done) |  exact callP_old _ _ _ _ _ | exact one_int _ _ | exact one_bool _ | exact one_string _ | exact one_slice _ _ _ | exact one_pointer _ | exact hget_push_one _ _ _ _ (by omega) | (simp only [List.length_map, List.length_set, List.length_replicate, List.length_cons, List.length_nil]; omega) | (rw [hget_push_lt _ _ _ _ (by omega)]; first | assumption | exact hget_push_one _ _ _ _ (by omega))) only [WW0, WW1, WW2, WW3, WW4, WW5, WW6, WW7, Option.map_some, args0, slotsL, opdsA, List.cons_append, List.nil_append, List.map_cons, List.map_nil, List.append_nil, Option.toList_some, Option.toList_none, Nat.reduceEqDiff, Nat.reduceLT, Nat.reduceAdd, Nat.reduceBEq, Int.reduceAdd, Int.reduceSub, Int.reduceLT, Int.reduceLE, Int.reduceEq, Int.reduceNeg, ↓reduceIte, if_true, if_false, Bool.false_eq_true, Bool.not_true, Bool.not_false, List.length_cons, List.length_nil, List.length_singleton, reduceCtorEq, Int.toNat_natCast, Nat.zero_add, Nat.add_zero, Int.add_sub_cancel, eq_self, List.drop_zero, List.drop_succ_cons, Option.some.injEq, Prod.mk.injEq, mkFnA, Bool.and_true, Bool.true_and, Bool.and_self]
    unfold many; omega
  · rintro m fr tt ⟨k, rfl, hk, rfl, rfl⟩
    by_cases hlt : k < V.length
    · have r1 := t'.r k hlt
      have r2 := u'.r k hlt
      have hlr := t.lr k hlt
      repeat' (first | (simp (disch := first | omega | assumption | (exact id (by with_unfolding_all rfl)) | ((refine all_cons _ _ (by first | assumption | exact id (by with_unfolding_all rfl)) ?_); (repeat' (first | exact List.all_nil | refine all_cons _ _ (by first | assumption | exact id (by with_unfolding_all rfl)) ?_)); done) |  exact callP_old _ _ _ _ _ | exact one_int _ _ | exact one_bool _ | exact one_string _ | exact one_slice _ _ _ | exact one_pointer _ | exact hget_push_one _ _ _ _ (by omega) | (simp only [List.length_map, List.length_set, List.length_replicate, List.length_cons, List.length_nil]; omega) | (rw [hget_push_lt _ _ _ _ (by omega)]; first | assumption | exact hget_push_one _ _ _ _ (by omega))) only [WW0, WW1, WW2, WW3, WW4, WW5, WW6, WW7, Option.map_some, args0, slotsL, opdsA, List.cons_append, List.nil_append, List.map_cons, List.map_nil, List.append_nil, Option.toList_some, Option.toList_none, Nat.reduceEqDiff, Nat.reduceLT, Nat.reduceAdd, Nat.reduceBEq, Int.reduceAdd, Int.reduceSub, Int.reduceLT, Int.reduceLE, Int.reduceEq, Int.reduceNeg, ↓reduceIte, if_true, if_false, Bool.false_eq_true, Bool.not_true, Bool.not_false, List.length_cons, List.length_nil, List.length_singleton, reduceCtorEq, Int.toNat_natCast, Nat.zero_add, Nat.add_zero, Int.add_sub_cancel, eq_self, List.drop_zero, List.drop_succ_cons, Option.some.injEq, Prod.mk.injEq, mkFnA, Bool.and_true, Bool.true_and, Bool.and_self, c17l1, g1, g2, t'.v.len, t'.v.idx, t'.v.load, u'.v.idx, u'.v.load, r1.len, r2.len, hl1, hl2]) | (refine does_goI_dec (fun _ => ?_) (fun _ => ?_)) | (refine does_goG_dec (fun _ => ?_) (fun _ => ?_)) | (refine does_goI (fun _ => ?_) (fun _ => ?_)) | (refine does_goG (fun _ => ?_) (fun _ => ?_)))
      refine does_while (fun m fr t => ∃ j : Nat, m = V[k]!.length - j ∧ j ≤ V[k]!.length ∧ fr = [(2, .pointer (some ⟨nx, 0, some 0⟩)), (3, .pointer (some ⟨nx + 1, 0, some 0⟩)), (5, .int .i64 k), (6, .int .i64 j)] ∧ t = ⟨H, nx + 1 + 1, nx⟩) (m := V[k]!.length) ?_ ?_ ?_
      · exact ⟨0, by omega, by omega, rfl, rfl⟩
      · simp (disch := first | omega | assumption | (exact id (by with_unfolding_all rfl)) | ((refine all_cons _ _ (by first | assumption | exact id (by with_unfolding_all rfl)) ?_); (repeat' (first | exact List.all_nil | refine all_cons _ _ (by first | assumption | exact id (by with_unfolding_all rfl)) ?_)); done) |  exact callP_old _ _ _ _ _ | exact one_int _ _ | exact one_bool _ | exact one_string _ | exact one_slice _ _ _ | exact one_pointer _ | exact hget_push_one _ _ _ _ (by omega) | (simp only [List.length_map, List.length_set, List.length_replicate, List.length_cons, List.length_nil]; omega) | (rw [hget_push_lt _ _ _ _ (by omega)]; first | assumption | exact hget_push_one _ _ _ _ (by omega))) only [WW0, WW1, WW2, WW3, WW4, WW5, WW6, WW7, Option.map_some, args0, slotsL, opdsA, List.cons_append, List.nil_append, List.map_cons, List.map_nil, List.append_nil, Option.toList_some, Option.toList_none, Nat.reduceEqDiff, Nat.reduceLT, Nat.reduceAdd, Nat.reduceBEq, Int.reduceAdd, Int.reduceSub, Int.reduceLT, Int.reduceLE, Int.reduceEq, Int.reduceNeg, ↓reduceIte, if_true, if_false, Bool.false_eq_true, Bool.not_true, Bool.not_false, List.length_cons, List.length_nil, List.length_singleton, reduceCtorEq, Int.toNat_natCast, Nat.zero_add, Nat.add_zero, Int.add_sub_cancel, eq_self, List.drop_zero, List.drop_succ_cons, Option.some.injEq, Prod.mk.injEq, mkFnA, Bool.and_true, Bool.true_and, Bool.and_self]
        unfold many; omega
      · rintro m fr tt ⟨j, rfl, hj, rfl, rfl⟩
        by_cases hlj : j < V[k]!.length
        · repeat' (first | (simp (disch := first | omega | assumption | (exact id (by with_unfolding_all rfl)) | ((refine all_cons _ _ (by first | assumption | exact id (by with_unfolding_all rfl)) ?_); (repeat' (first | exact List.all_nil | refine all_cons _ _ (by first | assumption | exact id (by with_unfolding_all rfl)) ?_)); done) |  exact callP_old _ _ _ _ _ | exact one_int _ _ | exact one_bool _ | exact one_string _ | exact one_slice _ _ _ | exact one_pointer _ | exact hget_push_one _ _ _ _ (by omega) | (simp only [List.length_map, List.length_set, List.length_replicate, List.length_cons, List.length_nil]; omega) | (rw [hget_push_lt _ _ _ _ (by omega)]; first | assumption | exact hget_push_one _ _ _ _ (by omega))) only [WW0, WW1, WW2, WW3, WW4, WW5, WW6, WW7, Option.map_some, args0, slotsL, opdsA, List.cons_append, List.nil_append, List.map_cons, List.map_nil, List.append_nil, Option.toList_some, Option.toList_none, Nat.reduceEqDiff, Nat.reduceLT, Nat.reduceAdd, Nat.reduceBEq, Int.reduceAdd, Int.reduceSub, Int.reduceLT, Int.reduceLE, Int.reduceEq, Int.reduceNeg, ↓reduceIte, if_true, if_false, Bool.false_eq_true, Bool.not_true, Bool.not_false, List.length_cons, List.length_nil, List.length_singleton, reduceCtorEq, Int.toNat_natCast, Nat.zero_add, Nat.add_zero, Int.add_sub_cancel, eq_self, List.drop_zero, List.drop_succ_cons, Option.some.injEq, Prod.mk.injEq, mkFnA, Bool.and_true, Bool.true_and, Bool.and_self, c17l0, g1, g2, t'.v.idx, t'.v.load, u'.v.idx, u'.v.load, r1.len, r2.len, r1.idx, r1.load, r2.idx, r2.load, beq_self_eq_true]) | (refine does_goI_dec (fun _ => ?_) (fun _ => ?_)) | (refine does_goG_dec (fun _ => ?_) (fun _ => ?_)) | (refine does_goI (fun _ => ?_) (fun _ => ?_)) | (refine does_goG (fun _ => ?_) (fun _ => ?_)))
          refine ⟨_, ?_, j + 1, rfl, hlj, by simp⟩
          omega
        · have : j = V[k]!.length := by omega
          subst this
          repeat' (first | (simp (disch := first | omega | assumption | (exact id (by with_unfolding_all rfl)) | ((refine all_cons _ _ (by first | assumption | exact id (by with_unfolding_all rfl)) ?_); (repeat' (first | exact List.all_nil | refine all_cons _ _ (by first | assumption | exact id (by with_unfolding_all rfl)) ?_)); done) |  exact callP_old _ _ _ _ _ | exact one_int _ _ | exact one_bool _ | exact one_string _ | exact one_slice _ _ _ | exact one_pointer _ | exact hget_push_one _ _ _ _ (by omega) | (simp only [List.length_map, List.length_set, List.length_replicate, List.length_cons, List.length_nil]; omega) | (rw [hget_push_lt _ _ _ _ (by omega)]; first | assumption | exact hget_push_one _ _ _ _ (by omega))) only [WW0, WW1, WW2, WW3, WW4, WW5, WW6, WW7, Option.map_some, args0, slotsL, opdsA, List.cons_append, List.nil_append, List.map_cons, List.map_nil, List.append_nil, Option.toList_some, Option.toList_none, Nat.reduceEqDiff, Nat.reduceLT, Nat.reduceAdd, Nat.reduceBEq, Int.reduceAdd, Int.reduceSub, Int.reduceLT, Int.reduceLE, Int.reduceEq, Int.reduceNeg, ↓reduceIte, if_true, if_false, Bool.false_eq_true, Bool.not_true, Bool.not_false, List.length_cons, List.length_nil, List.length_singleton, reduceCtorEq, Int.toNat_natCast, Nat.zero_add, Nat.add_zero, Int.add_sub_cancel, eq_self, List.drop_zero, List.drop_succ_cons, Option.some.injEq, Prod.mk.injEq, mkFnA, Bool.and_true, Bool.true_and, Bool.and_self, c17l0, g1, g2, t'.v.idx, t'.v.load, r1.len]) | (refine does_goI_dec (fun _ => ?_) (fun _ => ?_)) | (refine does_goG_dec (fun _ => ?_) (fun _ => ?_)) | (refine does_goI (fun _ => ?_) (fun _ => ?_)) | (refine does_goG (fun _ => ?_) (fun _ => ?_)))
          refine ⟨_, ?_, k + 1, rfl, hlt, by simp⟩
          omega
    · have : k = V.length := by omega
      subst this
      repeat' (first | (simp (disch := first | omega | assumption | (exact id (by with_unfolding_all rfl)) | ((refine all_cons _ _ (by first | assumption | exact id (by with_unfolding_all rfl)) ?_); (repeat' (first | exact List.all_nil | refine all_cons _ _ (by first | assumption | exact id (by with_unfolding_all rfl)) ?_)); done) |  exact callP_old _ _ _ _ _ | exact one_int _ _ | exact one_bool _ | exact one_string _ | exact one_slice _ _ _ | exact one_pointer _ | exact hget_push_one _ _ _ _ (by omega) | (simp only [List.length_map, List.length_set, List.length_replicate, List.length_cons, List.length_nil]; omega) | (rw [hget_push_lt _ _ _ _ (by omega)]; first | assumption | exact hget_push_one _ _ _ _ (by omega))) only [WW0, WW1, WW2, WW3, WW4, WW5, WW6, WW7, Option.map_some, args0, slotsL, opdsA, List.cons_append, List.nil_append, List.map_cons, List.map_nil, List.append_nil, Option.toList_some, Option.toList_none, Nat.reduceEqDiff, Nat.reduceLT, Nat.reduceAdd, Nat.reduceBEq, Int.reduceAdd, Int.reduceSub, Int.reduceLT, Int.reduceLE, Int.reduceEq, Int.reduceNeg, ↓reduceIte, if_true, if_false, Bool.false_eq_true, Bool.not_true, Bool.not_false, List.length_cons, List.length_nil, List.length_singleton, reduceCtorEq, Int.toNat_natCast, Nat.zero_add, Nat.add_zero, Int.add_sub_cancel, eq_self, List.drop_zero, List.drop_succ_cons, Option.some.injEq, Prod.mk.injEq, mkFnA, Bool.and_true, Bool.true_and, Bool.and_self, c17l1, g1, t'.v.len, hl1]) | (refine does_goI_dec (fun _ => ?_) (fun _ => ?_)) | (refine does_goG_dec (fun _ => ?_) (fun _ => ?_)) | (refine does_goI (fun _ => ?_) (fun _ => ?_)) | (refine does_goG (fun _ => ?_) (fun _ => ?_)))
end
end Go.Proofs.YtepdkmdcainddaaDoor
-- lib2
namespace Go.Proofs.YtepdkmdcainddaaDoor
open Go Go.Itp
set_option linter.unusedSimpArgs false
set_option linter.unusedVariables false
set_option maxRecDepth 100000
set_option maxHeartbeats 1000000
attribute [local irreducible] Does

/-- a chain whose cards lie in rows of its own -/
structure NC (w : World) (h : Heap) (n0 nx : Nat) (vC : Value) (rs : List Value) (V : List (List Bool)) : Prop where
  cb : CB w h nx vC rs V
  row : ∀ k, k < V.length → ∃ (i c : Nat) (g : Bool), rs[k]! = .slice (some ⟨i, 0, some 0⟩) V[k]!.length c ∧ n0 ≤ i ∧ hget h i = some ⟨V[k]!.map Value.bool, 1, g, 4⟩ ∧ bidN vC ≠ i + 1
  sep : ∀ k k', k < V.length → k' < V.length → k ≠ k' → bidN rs[k]! ≠ bidN rs[k']!
  fv : bidN vC = 0 ∨ n0 < bidN vC
theorem CB.set {w : World} {h : Heap} {nx i : Nat} {vC : Value} {rs : List Value} {V : List (List Bool)} (t : CB w h nx vC rs V) (b : Blk) (hv : bidN vC ≠ i + 1) (hr : ∀ k, k < V.length → bidN rs[k]! ≠ i + 1) : CB w (hset h i b) nx vC rs V :=
  ⟨t.v.set _ hv, t.len, fun k hk => (t.r k hk).set _ (hr k hk), t.bv, t.br, t.lv, t.lr⟩
theorem NC.bidr {w : World} {h : Heap} {n0 nx : Nat} {vC : Value} {rs : List Value} {V : List (List Bool)} (t : NC w h n0 nx vC rs V) {k : Nat} (hk : k < V.length) : n0 < bidN rs[k]! := by
  obtain ⟨i, c, g, e1, e2, _⟩ := t.row k hk
  rw [e1]; simp only [bidN, bidA]; omega
theorem NC.hx {w : World} {h h' : Heap} {n0 nx nx' : Nat} {vC : Value} {rs : List Value} {V : List (List Bool)} (t : NC w h n0 nx vC rs V) (hx : HX nx h h') (hn : nx ≤ nx') : NC w h' n0 nx' vC rs V :=
  ⟨t.cb.hx hx hn, fun k hk => by
    obtain ⟨i, c, g, e1, e2, e3, e4⟩ := t.row k hk
    have hb := t.cb.br k hk
    rw [e1] at hb
    simp only [bidN, bidA] at hb
    exact ⟨i, c, g, e1, e2, by rw [hx i (by omega)]; exact e3, e4⟩, t.sep, t.fv⟩
section
variable (w : World) (n : Nat) {vC : Value} {rs : List Value} {V : List (List Bool)} {h : Heap} {nx p : Nat}
theorem twin_w (t : CB w h nx vC rs V) (q : Int) (hp : p ≤ nx) :
    ∃ (v : Value) (ss : List Value) (h' : Heap) (n' : Nat), (EN w (n + 1)).wcall 22 [.agg [.int .i64 q, vC].toArray] ⟨h, nx, p⟩ = some (.agg [.int .i64 q, v].toArray, ⟨h', n', p⟩) ∧
      HX nx h h' ∧ nx ≤ n' ∧ NC w h' nx n' v ss V := by
  have key : ∃ v s', (EN w (n + 1)).wcall 22 [.agg [.int .i64 q, vC].toArray] ⟨h, nx, p⟩ = some (v, s') ∧ (∃ (u : Value) (ss : List Value) (h' : Heap) (n' : Nat), v = .agg [.int .i64 q, u].toArray ∧ s' = ⟨h', n', p⟩ ∧
      HX nx h h' ∧ nx ≤ n' ∧ NC w h' nx n' u ss V) := by
    refine wcall_ex rfl (Nat.le_of_ble_eq_true rfl) ?_
    have hlen := t.len
    have hlv := t.lv
    repeat' (first | (simp (disch := first | omega | assumption | (exact id (by with_unfolding_all rfl)) | ((refine all_cons _ _ (by first | assumption | exact id (by with_unfolding_all rfl)) ?_); (repeat' (first | exact List.all_nil | refine all_cons _ _ (by first | assumption | exact id (by with_unfolding_all rfl)) ?_)); done) |  exact callP_old _ _ _ _ _ | exact one_int _ _ | exact one_bool _ | exact one_string _ | exact one_slice _ _ _ | exact one_pointer _ | exact hget_push_one _ _ _ _ (by omega) | (simp only [List.length_map, List.length_set, List.length_replicate, List.length_cons, List.length_nil]; omega) | (rw [hget_push_lt _ _ _ _ (by omega)]; first | assumption | exact hget_push_one _ _ _ _ (by omega))) only [WW0, WW1, WW2, WW3, WW4, WW5, WW6, WW7, Option.map_some, args0, slotsL, opdsA, List.cons_append, List.nil_append, List.map_cons, List.map_nil, List.append_nil, Option.toList_some, Option.toList_none, Nat.reduceEqDiff, Nat.reduceLT, Nat.reduceAdd, Nat.reduceBEq, Int.reduceAdd, Int.reduceSub, Int.reduceLT, Int.reduceLE, Int.reduceEq, Int.reduceNeg, ↓reduceIte, if_true, if_false, Bool.false_eq_true, Bool.not_true, Bool.not_false, List.length_cons, List.length_nil, List.length_singleton, reduceCtorEq, Int.toNat_natCast, Nat.zero_add, Nat.add_zero, Int.add_sub_cancel, eq_self, List.drop_zero, List.drop_succ_cons, Option.some.injEq, Prod.mk.injEq, mkFnA, Bool.and_true, Bool.true_and, Bool.and_self, zchain]) | (refine does_goI_dec (fun _ => ?_) (fun _ => ?_)) | (refine does_goG_dec (fun _ => ?_) (fun _ => ?_)) | (refine does_goI (fun _ => ?_) (fun _ => ?_)) | (refine does_goG (fun _ => ?_) (fun _ => ?_)))
    obtain ⟨H0, hH0⟩ : ∃ H0, H0 = hset (hpush (hpush (hpush h nx [⟨[.int .i64 q, vC], 1, false, 34⟩]) (nx + 1) [⟨[.int .i64 0, .slice none 0 0], 1, false, 34⟩]) (nx + 1 + 1) [⟨[.int .i64 0, .slice none 0 0], 1, false, 34⟩]) (nx + 1 + 1) ⟨[.int .i64 q, .slice none 0 0], 1, false, 34⟩ := ⟨_, rfl⟩
    have hx0 : HX nx h H0 := by subst hH0; exact ((((HX.refl _ _).push _ (Nat.le_refl _)).push _ (by omega)).push _ (by omega)).set _ (by omega)
    have g1 : hget H0 nx = some ⟨[.int .i64 q, vC], 1, false, 34⟩ := by
      subst hH0; rw [hget_set_ne _ _ _ _ (by omega), hget_push_lt _ _ _ _ (by omega), hget_push_lt _ _ _ _ (by omega)]; exact hget_push_one _ _ _ _ rfl
    have g2 : hget H0 (nx + 1) = some ⟨[.int .i64 0, .slice none 0 0], 1, false, 34⟩ := by
      subst hH0; rw [hget_set_ne _ _ _ _ (by omega), hget_push_lt _ _ _ _ (by omega)]; exact hget_push_one _ _ _ _ rfl
    have g3 : hget H0 (nx + 1 + 1) = some ⟨[.int .i64 q, .slice none 0 0], 1, false, 34⟩ := by
      subst hH0; rw [hget_set_self, hget_push_one _ _ _ _ rfl]; rfl
    rw [← hH0]
    refine does_while (fun m fr tt => ∃ (k : Nat) (u : Value) (ss : List Value) (h1 : Heap) (n1 : Nat), m = V.length - k ∧ k ≤ V.length ∧ fr = [(1, .pointer (some ⟨nx, 0, some 0⟩)), (2, .pointer (some ⟨nx + 1, 0, some 0⟩)), (3, .pointer (some ⟨nx + 1 + 1, 0, some 0⟩)), (4, .int .i64 k)] ∧ tt = ⟨h1, n1, p⟩ ∧
      HX (nx + 2) H0 h1 ∧ nx + 3 ≤ n1 ∧ hget h1 (nx + 1 + 1) = some ⟨[.int .i64 q, u], 1, false, 34⟩ ∧ Own (nx + 3) ⟨h1, n1, p⟩ 22 1 u k ss ∧ ss.length = k ∧
      (∀ j, j < k → ∃ (i c : Nat) (g : Bool), ss[j]! = .slice (some ⟨i, 0, some 0⟩) V[j]!.length c ∧ nx + 3 ≤ i ∧ i < n1 ∧ V[j]!.length ≤ knownCap c ∧ hget h1 i = some ⟨V[j]!.map Value.bool, 1, g, 4⟩ ∧ bidN u ≠ i + 1) ∧
      ∀ j j', j < k → j' < k → j ≠ j' → bidN ss[j]! ≠ bidN ss[j']!) (m := V.length) ?_ ?_ ?_
    · exact ⟨0, _, _, _, _, (Nat.sub_zero _).symm, Nat.zero_le _, rfl, rfl, HX.refl _ _, Nat.le_refl _, g3, Own.nil, rfl, by omega, by omega⟩
    · simp (disch := first | omega | assumption | (exact id (by with_unfolding_all rfl)) | ((refine all_cons _ _ (by first | assumption | exact id (by with_unfolding_all rfl)) ?_); (repeat' (first | exact List.all_nil | refine all_cons _ _ (by first | assumption | exact id (by with_unfolding_all rfl)) ?_)); done) |  exact callP_old _ _ _ _ _ | exact one_int _ _ | exact one_bool _ | exact one_string _ | exact one_slice _ _ _ | exact one_pointer _ | exact hget_push_one _ _ _ _ (by omega) | (simp only [List.length_map, List.length_set, List.length_replicate, List.length_cons, List.length_nil]; omega) | (rw [hget_push_lt _ _ _ _ (by omega)]; first | assumption | exact hget_push_one _ _ _ _ (by omega))) only [WW0, WW1, WW2, WW3, WW4, WW5, WW6, WW7, Option.map_some, args0, slotsL, opdsA, List.cons_append, List.nil_append, List.map_cons, List.map_nil, List.append_nil, Option.toList_some, Option.toList_none, Nat.reduceEqDiff, Nat.reduceLT, Nat.reduceAdd, Nat.reduceBEq, Int.reduceAdd, Int.reduceSub, Int.reduceLT, Int.reduceLE, Int.reduceEq, Int.reduceNeg, ↓reduceIte, if_true, if_false, Bool.false_eq_true, Bool.not_true, Bool.not_false, List.length_cons, List.length_nil, List.length_singleton, reduceCtorEq, Int.toNat_natCast, Nat.zero_add, Nat.add_zero, Int.add_sub_cancel, eq_self, List.drop_zero, List.drop_succ_cons, Option.some.injEq, Prod.mk.injEq, mkFnA, Bool.and_true, Bool.true_and, Bool.and_self]
      unfold many; omega
    · rintro m fr tt ⟨k, u, ss, h1, n1, rfl, hk, rfl, rfl, hx1, hn1, hg3, ho, hsl, hrow, hsep⟩
      have ht1 := t.hx (hx0.trans hx1 (by omega)) (nx' := n1) (by omega)
      have hg1 : hget h1 nx = some ⟨[.int .i64 q, vC], 1, false, 34⟩ := by rw [hx1 _ (by omega)]; exact g1
      have hg2 : hget h1 (nx + 1) = some ⟨[.int .i64 0, .slice none 0 0], 1, false, 34⟩ := by rw [hx1 _ (by omega)]; exact g2
      have hb2 := ho.bid2
      have hbd := ho.bid
      simp only at hbd
      by_cases hlt : k < V.length
      · have hr := ht1.r k hlt
        have hlr := t.lr k hlt
        have hbr := ht1.br k hlt
        obtain ⟨B, hB⟩ : ∃ B, B = newB 4 1 V[k]!.length (V[k]!.map Value.bool) := ⟨_, rfl⟩
        have hbl : B.length ≤ 1 := by rw [hB]; exact newB_le ..
        have hcat := fun q' => app_catP (q := q') (hr.push [⟨[], 1, false, 4⟩] hbr) (hget_push_one _ _ _ _ rfl) (E := EN w n) (t := 4) (b := 1) (callP_old ..) (by omega) (by omega)
        rw [← hB] at hcat
        have hone := one_catV n1 V[k]!.length
        have ho' : Own (nx + 3) ⟨hpush (hpush h1 n1 [⟨[], 1, false, 4⟩]) (n1 + 1) B, n1 + 1 + B.length, p⟩ 22 1 u k ss := (ho.push [⟨[], 1, false, 4⟩] rfl).push B rfl
        have happ := ho'.appRow (E := EN w n) (b := 24) (c := catV n1 V[k]!.length) (t' := 22) (g := false) hone (by omega) (by omega)
        repeat' (first | (simp (disch := first | omega | assumption | (exact id (by with_unfolding_all rfl)) | ((refine all_cons _ _ (by first | assumption | exact id (by with_unfolding_all rfl)) ?_); (repeat' (first | exact List.all_nil | refine all_cons _ _ (by first | assumption | exact id (by with_unfolding_all rfl)) ?_)); done) |  exact callP_old _ _ _ _ _ | exact one_int _ _ | exact one_bool _ | exact one_string _ | exact one_slice _ _ _ | exact one_pointer _ | exact hget_push_one _ _ _ _ (by omega) | (simp only [List.length_map, List.length_set, List.length_replicate, List.length_cons, List.length_nil]; omega) | (rw [hget_push_lt _ _ _ _ (by omega)]; first | assumption | exact hget_push_one _ _ _ _ (by omega))) only [WW0, WW1, WW2, WW3, WW4, WW5, WW6, WW7, Option.map_some, args0, slotsL, opdsA, List.cons_append, List.nil_append, List.map_cons, List.map_nil, List.append_nil, Option.toList_some, Option.toList_none, Nat.reduceEqDiff, Nat.reduceLT, Nat.reduceAdd, Nat.reduceBEq, Int.reduceAdd, Int.reduceSub, Int.reduceLT, Int.reduceLE, Int.reduceEq, Int.reduceNeg, ↓reduceIte, if_true, if_false, Bool.false_eq_true, Bool.not_true, Bool.not_false, List.length_cons, List.length_nil, List.length_singleton, reduceCtorEq, Int.toNat_natCast, Nat.zero_add, Nat.add_zero, Int.add_sub_cancel, eq_self, List.drop_zero, List.drop_succ_cons, Option.some.injEq, Prod.mk.injEq, mkFnA, Bool.and_true, Bool.true_and, Bool.and_self, c22l0, hg1, hg3, ht1.v.len, hlen, ht1.v.idx, ht1.v.load, hcat, happ, hget_delO]) | (refine does_goI_dec (fun _ => ?_) (fun _ => ?_)) | (refine does_goG_dec (fun _ => ?_) (fun _ => ?_)) | (refine does_goI (fun _ => ?_) (fun _ => ?_)) | (refine does_goG (fun _ => ?_) (fun _ => ?_)))
        have hcr := cat_row Value.bool h1 n1 4 V[k]!
        rw [← hB] at hcr
        have hcb := catV_bid n1 V[k]!.length
        refine ⟨_, ?_, k + 1, .slice (some ⟨n1 + 1 + B.length + 1, 0, some 0⟩) (k + 1) (big + (k + 1)), ss ++ [catV n1 V[k]!.length], _, _, rfl, hlt, by simp, rfl, (((((hx1.push _ (by omega)).push _ (by omega)).push _ (by omega)).delO (by omega)).push _ (by omega)).set _ (by omega), by omega, ?_, ?_, by simp [hsl], ?_, ?_⟩
        · omega
        · rw [hget_set_self, hget_push_lt _ _ _ _ (by omega), hget_delO _ _ _ (by omega), hget_push_lt _ _ _ _ (by omega), hget_push_lt _ _ _ _ (by omega), hget_push_lt _ _ _ _ (by omega), hg3]; rfl
        · exact (Own.grown (by simp [hsl]) (by omega) (by omega)).to (Nat.le_refl _) rfl fun i hi => by
            simp only [bidN, bidA] at hi
            exact hget_set_ne _ _ _ _ (by omega)
        · intro j hj
          by_cases e : j = k
          · subst e
            obtain ⟨i, c, g, r1, r2, r3, r4, r5⟩ := hcr
            refine ⟨i, c, g, by rw [get_app_r _ _ _ (by omega) (by simp; omega), hsl, Nat.sub_self]; exact r1, by omega, by omega, r4, ?_, by simp only [bidN, bidA]; omega⟩
            rw [hget_set_ne _ _ _ _ (by omega), hget_push_lt _ _ _ _ (by omega), hget_delO _ _ _ (by omega), hget_push_lt _ _ _ _ (by omega)]
            exact r5
          · obtain ⟨i, c, g, r1, r2, r3, r4, r5, r6⟩ := hrow j (by omega)
            refine ⟨i, c, g, by rw [get_app_l _ _ _ (by omega)]; exact r1, r2, by omega, r4, ?_, by simp only [bidN, bidA]; omega⟩
            rw [hget_set_ne _ _ _ _ (by omega), hget_push_lt _ _ _ _ (by omega), hget_delO _ _ _ r6, hget_push_lt _ _ _ _ (by omega), hget_push_lt _ _ _ _ (by omega), hget_push_lt _ _ _ _ (by omega)]
            exact r5
        · have hlast : (ss ++ [catV n1 V[k]!.length])[k]! = catV n1 V[k]!.length := by rw [get_app_r _ _ _ (by omega) (by simp; omega), hsl, Nat.sub_self]; rfl
          have hold : ∀ j, j < k → (ss ++ [catV n1 V[k]!.length])[j]! = ss[j]! ∧ bidN ss[j]! ≤ n1 := fun j hj => by
            obtain ⟨i, c, g, r1, r2, r3, _⟩ := hrow j hj
            exact ⟨get_app_l _ _ _ (by omega), by rw [r1]; simp only [bidN, bidA]; omega⟩
          intro j j' hj hj' hne
          by_cases e : j = k
          · subst e
            obtain ⟨e1, e2⟩ := hold j' (by omega)
            rw [hlast, e1]; omega
          · obtain ⟨e1, e2⟩ := hold j (by omega)
            by_cases e' : j' = k
            · subst e'
              rw [hlast, e1]; omega
            · rw [e1, (hold j' (by omega)).1]; exact hsep j j' (by omega) (by omega) hne
      · have : k = V.length := by omega
        subst this
        have hone := ho.one
        repeat' (first | (simp (disch := first | omega | assumption | (exact id (by with_unfolding_all rfl)) | ((refine all_cons _ _ (by first | assumption | exact id (by with_unfolding_all rfl)) ?_); (repeat' (first | exact List.all_nil | refine all_cons _ _ (by first | assumption | exact id (by with_unfolding_all rfl)) ?_)); done) |  exact callP_old _ _ _ _ _ | exact one_int _ _ | exact one_bool _ | exact one_string _ | exact one_slice _ _ _ | exact one_pointer _ | exact hget_push_one _ _ _ _ (by omega) | (simp only [List.length_map, List.length_set, List.length_replicate, List.length_cons, List.length_nil]; omega) | (rw [hget_push_lt _ _ _ _ (by omega)]; first | assumption | exact hget_push_one _ _ _ _ (by omega))) only [WW0, WW1, WW2, WW3, WW4, WW5, WW6, WW7, Option.map_some, args0, slotsL, opdsA, List.cons_append, List.nil_append, List.map_cons, List.map_nil, List.append_nil, Option.toList_some, Option.toList_none, Nat.reduceEqDiff, Nat.reduceLT, Nat.reduceAdd, Nat.reduceBEq, Int.reduceAdd, Int.reduceSub, Int.reduceLT, Int.reduceLE, Int.reduceEq, Int.reduceNeg, ↓reduceIte, if_true, if_false, Bool.false_eq_true, Bool.not_true, Bool.not_false, List.length_cons, List.length_nil, List.length_singleton, reduceCtorEq, Int.toNat_natCast, Nat.zero_add, Nat.add_zero, Int.add_sub_cancel, eq_self, List.drop_zero, List.drop_succ_cons, Option.some.injEq, Prod.mk.injEq, mkFnA, Bool.and_true, Bool.true_and, Bool.and_self, c22l0, hg1, hg2, hg3, ht1.v.len, hlen]) | (refine does_goI_dec (fun _ => ?_) (fun _ => ?_)) | (refine does_goG_dec (fun _ => ?_) (fun _ => ?_)) | (refine does_goI (fun _ => ?_) (fun _ => ?_)) | (refine does_goG (fun _ => ?_) (fun _ => ?_)))
        have hget' : ∀ i, nx + 3 ≤ i → hget (hset h1 (nx + 1) ⟨[.int .i64 q, u], 1, false, 34⟩) i = hget h1 i := fun i hi => hget_set_ne _ _ _ _ (by omega)
        refine ⟨u, ss, _, _, by simp [tupleOf], rfl, (hx0.trans hx1 (by omega)).set _ (by omega), by omega, ⟨⟨?_, hsl, ?_, by omega, ?_, t.lv, t.lr⟩, ?_, hsep, by omega⟩⟩
        · exact (ho.rdV (old := oldOf w) hsl.symm).set _ (by omega)
        · intro j hj
          obtain ⟨i, c, g, r1, r2, r3, r4, r5, r6⟩ := hrow j hj
          rw [r1]
          exact Rd.newb (by rw [hget' i r2]; exact r5) rfl rfl r4
        · intro j hj
          obtain ⟨i, c, g, r1, r2, r3, r4, r5, r6⟩ := hrow j hj
          rw [r1]; simp only [bidN, bidA]; omega
        · intro j hj
          obtain ⟨i, c, g, r1, r2, r3, r4, r5, r6⟩ := hrow j hj
          exact ⟨i, c, g, r1, by omega, by rw [hget' i r2]; exact r5, r6⟩
  obtain ⟨v, s', hc, u, ss, h', n', rfl, rfl, hq⟩ := key
  exact ⟨u, ss, h', n', hc, hq⟩
end
end Go.Proofs.YtepdkmdcainddaaDoor
-- lib2
namespace Go.Proofs.YtepdkmdcainddaaDoor
open Go Go.Itp
set_option linter.unusedSimpArgs false
set_option linter.unusedVariables false
set_option maxRecDepth 100000
set_option maxHeartbeats 1000000
attribute [local irreducible] Does

theorem zpoint : expand [(2, .int .i64 0)] = [.int .i64 0, .int .i64 0] := rfl
theorem goWL_el {E : Env} {K : List KF} {fr fr0 : Fr} {p n : Nat} {conc : List Nat} {d : Option Nat} {l : List WOp} {rs : List WRec} {h : Heap} {tail : List AOper} {ks : List Nat} (g : Option Nat) (i o q len c k : Nat) :
    goWL (some (elP (.slice (some ⟨i, o, some q⟩) len c) k)) E g fr0 p conc d l rs fr h n tail ks K = goWB (retP (loadA E h g (elP (.slice (some ⟨i, o, some q⟩) len c) k))) (.only [i]) E fr0 p conc d l rs fr h n tail ks K := goWL_own ..
theorem ld_of {old : Nat → Nat → Option Value} {h : Heap} {i len c : Nat} {v : Value} (e : loadO old h (elP (.slice (some ⟨i, 0, some 0⟩) len c) 0) = some v) : loadB (hget h i) (Int.toNat 0) = some v := by
  rw [show elP (.slice (some ⟨i, 0, some 0⟩) len c) 0 = .pointer (some ⟨i, 0, some 0⟩) from rfl, loadO_new] at e
  exact e
def flip (V : List (List Bool)) (y x : Nat) : List (List Bool) := V.set y (V[y]!.set x (!V[y]![x]!))
def mendE (q : Int) (V : List (List Bool)) : Int := if wrongE q V = 0 then (if wrongA q V = [] ∧ wrongB q V = [] then 0 else if (wrongA q V).length = 1 ∧ (wrongB q V).length = 1 then 0 else 30) else wrongE q V
def mendS (q : Int) (V : List (List Bool)) : Int × List (List Bool) × Int × Int × Bool :=
  if wrongE q V = 0 then (if wrongA q V = [] ∧ wrongB q V = [] then (q, V, 0, 0, false)
    else if (wrongA q V).length = 1 ∧ (wrongB q V).length = 1 then (q, flip V (wrongA q V)[0]!.toNat (wrongB q V)[0]!.toNat, (wrongB q V)[0]!, (wrongA q V)[0]!, true) else (0, [], 0, 0, false)) else (0, [], 0, 0, false)
structure MR (w : World) (h : Heap) (nx : Nat) (q : Int) (V : List (List Bool)) (v : Value) : Prop where
  is : ∃ (q' : Int) (u : Value) (ss : List Value) (V' : List (List Bool)) (x y : Int) (c : Bool), v = .tuple [.agg [.int .i64 q', u].toArray, .agg [.int .i64 x, .int .i64 y].toArray, .bool c, .int .i64 (mendE q V)].toArray ∧ CB w h nx u ss V' ∧ mendS q V = (q', V', x, y, c)
theorem CB.zero (w : World) (h : Heap) (nx : Nat) : CB w h nx (.slice none 0 0) [] [] := ⟨Rd.nil, rfl, fun k hk => by simp at hk, by simp [bidN, bidA], fun k hk => by simp at hk, by simp, fun k hk => by simp at hk⟩
theorem NC.flip {w : World} {h : Heap} {n0 nx : Nat} {u : Value} {ss : List Value} {V : List (List Bool)} (t : NC w h n0 nx u ss V) {y x i c : Nat} {g : Bool} {b : Bool} (hy : y < V.length) (hi : ss[y]! = .slice (some ⟨i, 0, some 0⟩) V[y]!.length c) (hu : bidN u ≠ i + 1) :
    CB w (hset h i ⟨(V[y]!.set x b).map Value.bool, 1, g, 4⟩) nx u ss (V.set y (V[y]!.set x b)) := by
  obtain ⟨i', c', g', r1, r2, r3, r4⟩ := t.row y hy
  rw [hi] at r1
  cases r1
  have hset : ∀ k, k < V.length → (V.set y (V[y]!.set x b))[k]! = if k = y then V[y]!.set x b else V[k]! := by
    intro k hk
    by_cases hky : k = y
    · subst hky; rw [get_set_eq _ _ _ hk, if_pos rfl]
    · rw [get_set_ne _ _ _ _ (fun e => hky e.symm), if_neg hky]
  have hkc : V[y]!.length ≤ knownCap c := by
    have := (t.cb.r y hy)
    rw [hi] at this
    rcases this.is with ⟨a, c'', h1, h2, _⟩ | ⟨_, k, b', m, h1⟩
    · cases h1; exact h2
    · cases h1
  refine ⟨t.cb.v.set _ hu, by rw [List.length_set]; exact t.cb.len, fun k hk => ?_, t.cb.bv, fun k hk => ?_, by rw [List.length_set]; exact t.cb.lv, fun k hk => ?_⟩
  · rw [List.length_set] at hk
    rw [hset k hk]
    by_cases hky : k = y
    · subst hky
      rw [if_pos rfl, hi]
      exact Rd.newb (by rw [hget_set_self, r3]; rfl) rfl (by simp) (by simpa using hkc)
    · rw [if_neg hky]
      refine (t.cb.r k hk).set _ ?_
      have := t.sep k y hk hy hky
      rw [hi] at this
      simpa [bidN, bidA] using this
  · rw [List.length_set] at hk
    exact t.cb.br k hk
  · rw [List.length_set] at hk
    rw [hset k hk]
    split
    · rw [List.length_set]; exact t.cb.lr y hy
    · exact t.cb.lr k hk
end Go.Proofs.YtepdkmdcainddaaDoor
-- lib2
namespace Go.Proofs.YtepdkmdcainddaaDoor
open Go Go.Itp
set_option linter.unusedSimpArgs false
set_option linter.unusedVariables false
set_option maxRecDepth 100000
set_option maxHeartbeats 1000000
attribute [local irreducible] Does

/-- a whole row copied into a block of the same length -/
theorem copy_row {E : Env} {old : Nat → Nat → Option Value} {h : Heap} {nx p i c m : Nat} {cs : List Value} {g : Bool} {t : TypeId} {α : Type} {f : α → Value} {x : Value} {l : List α} (he : E.old = old) (hr : Rd old h f x l) (hg : hget h i = some ⟨cs, 1, g, t⟩) (hc : cs.length = l.length) (hp : p ≤ i) (hf : ∀ x, oneCell (f x) = true) (hm : m = l.length) :
    copyA E ⟨h, nx, p⟩ 1 (.slice (some ⟨i, 0, some 0⟩) m c) x = some (.int .i64 l.length, ⟨hset h i ⟨l.map f, 1, g, t⟩, nx, p⟩) := by
  subst hm
  have e1 : srcCells E h 1 l.length x = some (l.map f) := by
    have := hr.src l.length (Nat.le_refl _)
    rw [List.take_length] at this
    rw [← this]
    exact srcCells_old _ _ he _ _ _ _
  have e2 : Nat.ble p i = true := Nat.ble_eq_true_of_le hp
  have e3 : (l.map f).all oneCell = true := by simp [hf]
  have e4 : lput cs 0 (l.map f) = some (l.map f) := lput_all _ _ (by simp [hc])
  simp only [copyA, hr.lenA, Option.bind_some, Nat.min_self, e1, astore, e2, if_true, hg, e3, e4, Option.map_some]
theorem NC.set {w : World} {h : Heap} {n0 nx i : Nat} {vC : Value} {rs : List Value} {V : List (List Bool)} (t : NC w h n0 nx vC rs V) (b : Blk) (hi : i < n0) : NC w (hset h i b) n0 nx vC rs V := by
  have hfv := t.fv
  refine ⟨t.cb.set b (by omega) (fun k hk => by have := t.bidr hk; omega), fun k hk => ?_, t.sep, t.fv⟩
  obtain ⟨j, c, g, e1, e2, e3, e4⟩ := t.row k hk
  exact ⟨j, c, g, e1, e2, by rw [hget_set_ne _ _ _ _ (by omega)]; exact e3, e4⟩
section
variable (w : World) (n : Nat) {vC : Value} {rs : List Value} {V : List (List Bool)} {h : Heap} {nx p : Nat}
theorem mend_w (t : CB w h nx vC rs V) (q : Int) (hq : -9223372036854775808 ≤ q ∧ q ≤ 9223372036854775807) (hp : p ≤ nx) :
    ∃ (v : Value) (h' : Heap) (n' : Nat), (EN w (n + 6)).wcall 23 [.agg [.int .i64 q, vC].toArray] ⟨h, nx, p⟩ = some (v, ⟨h', n', p⟩) ∧
      HX nx h h' ∧ nx ≤ n' ∧ MR w h' n' q V v := by
  have key : ∃ v s', (EN w (n + 6)).wcall 23 [.agg [.int .i64 q, vC].toArray] ⟨h, nx, p⟩ = some (v, s') ∧ (∃ (h' : Heap) (n' : Nat), s' = ⟨h', n', p⟩ ∧
      HX nx h h' ∧ nx ≤ n' ∧ MR w h' n' q V v) := by
    refine wcall_ex rfl (Nat.le_of_ble_eq_true rfl) ?_
    obtain ⟨H0, hH0⟩ : ∃ H0, H0 = hpush (hpush (hpush h nx [⟨[.int .i64 q, vC], 1, false, 34⟩]) (nx + 1) [⟨[.int .i64 0, .slice none 0 0], 1, false, 34⟩]) (nx + 1 + 1) [⟨(List.replicate 2 (0 : Int)).map vI, 1, false, 47⟩] := ⟨_, rfl⟩
    have hx0 : HX nx h H0 := by subst hH0; exact (((HX.refl _ _).push _ (Nat.le_refl _)).push _ (by omega)).push _ (by omega)
    have t' := t.hx hx0 (nx' := nx + 1 + 1 + 1) (by omega)
    have g1 : hget H0 nx = some ⟨[.int .i64 q, vC], 1, false, 34⟩ := by subst hH0; rw [hget_push_lt _ _ _ _ (by omega), hget_push_lt _ _ _ _ (by omega)]; exact hget_push_one _ _ _ _ rfl
    have g2 : hget H0 (nx + 1) = some ⟨[.int .i64 0, .slice none 0 0], 1, false, 34⟩ := by subst hH0; rw [hget_push_lt _ _ _ _ (by omega)]; exact hget_push_one _ _ _ _ rfl
    have g3 : hget H0 (nx + 1 + 1) = some ⟨[.int .i64 0, .int .i64 0], 1, false, 47⟩ := by subst hH0; exact hget_push_one _ _ _ _ rfl
    obtain ⟨a, b, h1, n1, hc, hx1, hn1, hrA, hrB, hbA, hbB, hfA, hfB⟩ := wrong_w w n t' q hq (p := p) (by omega)
    have himp := fun xs s => imp (n + 4) 30 xs s w rfl
    have e1 : hget h1 nx = some ⟨[.int .i64 q, vC], 1, false, 34⟩ := by rw [hx1 _ (by omega)]; exact g1
    have e2 : hget h1 (nx + 1) = some ⟨[.int .i64 0, .slice none 0 0], 1, false, 34⟩ := by rw [hx1 _ (by omega)]; exact g2
    have e3 : hget h1 (nx + 1 + 1) = some ⟨[.int .i64 0, .int .i64 0], 1, false, 47⟩ := by rw [hx1 _ (by omega)]; exact g3
    have ht1 := t'.hx hx1 hn1
    have hx01 : HX nx h h1 := hx0.trans hx1 (by omega)
    have hlen := t.len
    have hlv := t.lv
    cases hv : validS q V
    · have he : ¬ wrongE q V = 0 := by simp [wrongE, hv]
      repeat' (first | (simp (disch := first | omega | assumption | (exact id (by with_unfolding_all rfl)) | ((refine all_cons _ _ (by first | assumption | exact id (by with_unfolding_all rfl)) ?_); (repeat' (first | exact List.all_nil | refine all_cons _ _ (by first | assumption | exact id (by with_unfolding_all rfl)) ?_)); done) |  exact callP_old _ _ _ _ _ | exact one_int _ _ | exact one_bool _ | exact one_string _ | exact one_slice _ _ _ | exact one_pointer _ | exact hget_push_one _ _ _ _ (by omega) | (simp only [List.length_map, List.length_set, List.length_replicate, List.length_cons, List.length_nil]; omega) | (rw [hget_push_lt _ _ _ _ (by omega)]; first | assumption | exact hget_push_one _ _ _ _ (by omega))) only [WW0, WW1, WW2, WW3, WW4, WW5, WW6, WW7, Option.map_some, args0, slotsL, opdsA, List.cons_append, List.nil_append, List.map_cons, List.map_nil, List.append_nil, Option.toList_some, Option.toList_none, Nat.reduceEqDiff, Nat.reduceLT, Nat.reduceAdd, Nat.reduceBEq, Int.reduceAdd, Int.reduceSub, Int.reduceLT, Int.reduceLE, Int.reduceEq, Int.reduceNeg, ↓reduceIte, if_true, if_false, Bool.false_eq_true, Bool.not_true, Bool.not_false, List.length_cons, List.length_nil, List.length_singleton, reduceCtorEq, Int.toNat_natCast, Nat.zero_add, Nat.add_zero, Int.add_sub_cancel, eq_self, List.drop_zero, List.drop_succ_cons, Option.some.injEq, Prod.mk.injEq, mkFnA, Bool.and_true, Bool.true_and, Bool.and_self, zchain, ← hH0, g1, himp, hc, e1, e2, e3]) | (refine does_goI_dec (fun _ => ?_) (fun _ => ?_)) | (refine does_goG_dec (fun _ => ?_) (fun _ => ?_)) | (refine does_goI (fun _ => ?_) (fun _ => ?_)) | (refine does_goG (fun _ => ?_) (fun _ => ?_)))
      refine ⟨_, _, rfl, (hx01.set _ (by omega)).set _ (by omega), by omega, ⟨0, .slice none 0 0, [], [], 0, 0, false, by simp [mendE, he, tupleOf], CB.zero .., by simp [mendS, he]⟩⟩
    have he : wrongE q V = 0 := by simp [wrongE, hv]
    obtain ⟨v1, v2, v3, v4, v5⟩ := valid_out hv
    repeat' (first | (simp (disch := first | omega | assumption | (exact id (by with_unfolding_all rfl)) | ((refine all_cons _ _ (by first | assumption | exact id (by with_unfolding_all rfl)) ?_); (repeat' (first | exact List.all_nil | refine all_cons _ _ (by first | assumption | exact id (by with_unfolding_all rfl)) ?_)); done) |  exact callP_old _ _ _ _ _ | exact one_int _ _ | exact one_bool _ | exact one_string _ | exact one_slice _ _ _ | exact one_pointer _ | exact hget_push_one _ _ _ _ (by omega) | (simp only [List.length_map, List.length_set, List.length_replicate, List.length_cons, List.length_nil]; omega) | (rw [hget_push_lt _ _ _ _ (by omega)]; first | assumption | exact hget_push_one _ _ _ _ (by omega))) only [WW0, WW1, WW2, WW3, WW4, WW5, WW6, WW7, Option.map_some, args0, slotsL, opdsA, List.cons_append, List.nil_append, List.map_cons, List.map_nil, List.append_nil, Option.toList_some, Option.toList_none, Nat.reduceEqDiff, Nat.reduceLT, Nat.reduceAdd, Nat.reduceBEq, Int.reduceAdd, Int.reduceSub, Int.reduceLT, Int.reduceLE, Int.reduceEq, Int.reduceNeg, ↓reduceIte, if_true, if_false, Bool.false_eq_true, Bool.not_true, Bool.not_false, List.length_cons, List.length_nil, List.length_singleton, reduceCtorEq, Int.toNat_natCast, Nat.zero_add, Nat.add_zero, Int.add_sub_cancel, eq_self, List.drop_zero, List.drop_succ_cons, Option.some.injEq, Prod.mk.injEq, mkFnA, Bool.and_true, Bool.true_and, Bool.and_self, zchain, ← hH0, g1, himp, hc, e1, e2, e3, ht1.v.len]) | (refine does_goI_dec (fun _ => ?_) (fun _ => ?_)) | (refine does_goG_dec (fun _ => ?_) (fun _ => ?_)) | (refine does_goI (fun _ => ?_) (fun _ => ?_)) | (refine does_goG (fun _ => ?_) (fun _ => ?_)))
    obtain ⟨H1, hH1⟩ : ∃ H1, H1 = hset (hpush h1 n1 [⟨[.int .i64 0, .slice none 0 0], 1, false, 34⟩]) n1 ⟨[.int .i64 q, .slice none 0 0], 1, false, 34⟩ := ⟨_, rfl⟩
    rw [← hH1]
    have hx2 : HX n1 h1 H1 := by subst hH1; exact ((HX.refl _ _).push _ (Nat.le_refl _)).set _ (Nat.le_refl _)
    have f8 : hget H1 n1 = some ⟨[.int .i64 q, .slice none 0 0], 1, false, 34⟩ := by subst hH1; rw [hget_set_self, hget_push_one _ _ _ _ rfl]; rfl
    refine does_while (fun m fr t => ∃ (k : Nat) (u : Value) (ss : List Value) (h2 : Heap) (n2 : Nat), m = V.length - k ∧ k ≤ V.length ∧ fr = [(2, .pointer (some ⟨nx + 1, 0, some 0⟩)), (3, .pointer (some ⟨nx + 1 + 1, 0, some 0⟩)), (6, a), (7, b), (8, .pointer (some ⟨n1, 0, some 0⟩)), (27, vC), (28, .int .i64 rs.length), (29, .int .i64 k)] ∧ t = ⟨h2, n2, p⟩ ∧
      HX n1 H1 h2 ∧ n1 + 1 ≤ n2 ∧ hget h2 n1 = some ⟨[.int .i64 q, u], 1, false, 34⟩ ∧ Own (n1 + 1) ⟨h2, n2, p⟩ 22 1 u k ss ∧ ss.length = k ∧
      (∀ j, j < k → ∃ (i c : Nat) (g : Bool), ss[j]! = .slice (some ⟨i, 0, some 0⟩) V[j]!.length c ∧ n1 + 1 ≤ i ∧ i < n2 ∧ V[j]!.length ≤ knownCap c ∧ hget h2 i = some ⟨V[j]!.map Value.bool, 1, g, 4⟩ ∧ bidN u ≠ i + 1) ∧
      ∀ j j', j < k → j' < k → j ≠ j' → bidN ss[j]! ≠ bidN ss[j']!) (m := V.length) ?_ ?_ ?_
    · exact ⟨0, _, _, _, _, (Nat.sub_zero _).symm, Nat.zero_le _, rfl, rfl, HX.refl _ _, Nat.le_refl _, f8, Own.nil, rfl, by omega, by omega⟩
    · simp (disch := first | omega | assumption | (exact id (by with_unfolding_all rfl)) | ((refine all_cons _ _ (by first | assumption | exact id (by with_unfolding_all rfl)) ?_); (repeat' (first | exact List.all_nil | refine all_cons _ _ (by first | assumption | exact id (by with_unfolding_all rfl)) ?_)); done) |  exact callP_old _ _ _ _ _ | exact one_int _ _ | exact one_bool _ | exact one_string _ | exact one_slice _ _ _ | exact one_pointer _ | exact hget_push_one _ _ _ _ (by omega) | (simp only [List.length_map, List.length_set, List.length_replicate, List.length_cons, List.length_nil]; omega) | (rw [hget_push_lt _ _ _ _ (by omega)]; first | assumption | exact hget_push_one _ _ _ _ (by omega))) only [WW0, WW1, WW2, WW3, WW4, WW5, WW6, WW7, Option.map_some, args0, slotsL, opdsA, List.cons_append, List.nil_append, List.map_cons, List.map_nil, List.append_nil, Option.toList_some, Option.toList_none, Nat.reduceEqDiff, Nat.reduceLT, Nat.reduceAdd, Nat.reduceBEq, Int.reduceAdd, Int.reduceSub, Int.reduceLT, Int.reduceLE, Int.reduceEq, Int.reduceNeg, ↓reduceIte, if_true, if_false, Bool.false_eq_true, Bool.not_true, Bool.not_false, List.length_cons, List.length_nil, List.length_singleton, reduceCtorEq, Int.toNat_natCast, Nat.zero_add, Nat.add_zero, Int.add_sub_cancel, eq_self, List.drop_zero, List.drop_succ_cons, Option.some.injEq, Prod.mk.injEq, mkFnA, Bool.and_true, Bool.true_and, Bool.and_self]
      unfold many; omega
    · rintro m fr tt ⟨k, u, ss, h2, n2, rfl, hk, rfl, rfl, hx3, hn3, hg8, ho, hsl, hrow, hsep⟩
      have ht2 := (ht1.hx hx2 (Nat.le_refl _)).hx hx3 (nx' := n2) (by omega)
      have hx13 : HX n1 h1 h2 := hx2.trans hx3 (by omega)
      have e4 : hget h2 nx = some ⟨[.int .i64 q, vC], 1, false, 34⟩ := by rw [hx13 _ (by omega)]; exact e1
      have e5 : hget h2 (nx + 1) = some ⟨[.int .i64 0, .slice none 0 0], 1, false, 34⟩ := by rw [hx13 _ (by omega)]; exact e2
      have e6 : hget h2 (nx + 1 + 1) = some ⟨[.int .i64 0, .int .i64 0], 1, false, 47⟩ := by rw [hx13 _ (by omega)]; exact e3
      have hb2 := ho.bid2
      have hbd := ho.bid
      simp only at hbd
      by_cases hlt : k < V.length
      · have hr := ht2.r k hlt
        have hlr := t.lr k hlt
        have hbr := ht2.br k hlt
        have hrl := hr.len
        obtain ⟨H2, hH2⟩ : ∃ H2, H2 = hset (hpush h2 n2 [⟨(List.replicate V[k]!.length false).map Value.bool, 1, false, 4⟩]) n2 ⟨V[k]!.map Value.bool, 1, false, 4⟩ := ⟨_, rfl⟩
        have hcp := copy_row (E := EN w (n + 5)) (nx := n2 + 1) (p := p) (i := n2) (c := V[k]!.length) (m := V[k]!.length) (callP_old ..) (hr.push (n := n2) [⟨(List.replicate V[k]!.length false).map Value.bool, 1, false, 4⟩] hbr) (hget_push_one h2 n2 _ _ rfl) (by rw [List.length_map, List.length_replicate]) (by omega) (fun _ => rfl) rfl
        rw [← hH2] at hcp
        have hx4 : HX n1 H1 H2 := by subst hH2; exact (hx3.push _ (by omega)).set _ (by omega)
        have hg8' : hget H2 n1 = some ⟨[.int .i64 q, u], 1, false, 34⟩ := by subst hH2; rw [hget_set_ne _ _ _ _ (by omega), hget_push_lt _ _ _ _ (by omega)]; exact hg8
        have ho' : Own (n1 + 1) ⟨H2, n2 + 1, p⟩ 22 1 u k ss := ho.to (by simp) rfl fun i hi => by
          subst hH2
          rw [hget_set_ne _ _ _ _ (by omega), hget_push_lt _ _ _ _ (by omega)]
        have happ := ho'.appRow (E := EN w (n + 5)) (b := 24) (c := .slice (some ⟨n2, 0, some 0⟩) V[k]!.length V[k]!.length) (t' := 22) (g := false) rfl (by omega) (by omega)
        repeat' (first | (simp (disch := first | omega | assumption | (exact id (by with_unfolding_all rfl)) | ((refine all_cons _ _ (by first | assumption | exact id (by with_unfolding_all rfl)) ?_); (repeat' (first | exact List.all_nil | refine all_cons _ _ (by first | assumption | exact id (by with_unfolding_all rfl)) ?_)); done) |  exact callP_old _ _ _ _ _ | exact one_int _ _ | exact one_bool _ | exact one_string _ | exact one_slice _ _ _ | exact one_pointer _ | exact hget_push_one _ _ _ _ (by omega) | (simp only [List.length_map, List.length_set, List.length_replicate, List.length_cons, List.length_nil]; omega) | (rw [hget_push_lt _ _ _ _ (by omega)]; first | assumption | exact hget_push_one _ _ _ _ (by omega))) only [WW0, WW1, WW2, WW3, WW4, WW5, WW6, WW7, Option.map_some, args0, slotsL, opdsA, List.cons_append, List.nil_append, List.map_cons, List.map_nil, List.append_nil, Option.toList_some, Option.toList_none, Nat.reduceEqDiff, Nat.reduceLT, Nat.reduceAdd, Nat.reduceBEq, Int.reduceAdd, Int.reduceSub, Int.reduceLT, Int.reduceLE, Int.reduceEq, Int.reduceNeg, ↓reduceIte, if_true, if_false, Bool.false_eq_true, Bool.not_true, Bool.not_false, List.length_cons, List.length_nil, List.length_singleton, reduceCtorEq, Int.toNat_natCast, Nat.zero_add, Nat.add_zero, Int.add_sub_cancel, eq_self, List.drop_zero, List.drop_succ_cons, Option.some.injEq, Prod.mk.injEq, mkFnA, Bool.and_true, Bool.true_and, Bool.and_self, c23l0, hg8, ht2.v.len, hlen, ht2.v.idx, ht2.v.load, hrl, hcp, hg8', happ, hget_delO]) | (refine does_goI_dec (fun _ => ?_) (fun _ => ?_)) | (refine does_goG_dec (fun _ => ?_) (fun _ => ?_)) | (refine does_goI (fun _ => ?_) (fun _ => ?_)) | (refine does_goG (fun _ => ?_) (fun _ => ?_)))
        have hrv : H2 = hset (hpush h2 n2 [⟨(List.replicate V[k]!.length false).map Value.bool, 1, false, 4⟩]) n2 ⟨V[k]!.map Value.bool, 1, false, 4⟩ := hH2
        have hgn : hget H2 n2 = some ⟨V[k]!.map Value.bool, 1, false, 4⟩ := by rw [hrv, hget_set_self, hget_push_one _ _ _ _ rfl]; rfl
        have hgo : ∀ i, i < n2 → hget H2 i = hget h2 i := fun i hi => by rw [hrv, hget_set_ne _ _ _ _ (by omega), hget_push_lt _ _ _ _ hi]
        refine ⟨_, ?_, k + 1, .slice (some ⟨n2 + 1 + 1, 0, some 0⟩) (k + 1) (big + (k + 1)), ss ++ [.slice (some ⟨n2, 0, some 0⟩) V[k]!.length V[k]!.length], _, _, rfl, hlt, by simp, rfl, (((hx4.push _ (by omega)).delO (by omega)).push _ (by omega)).set _ (by omega), by omega, ?_, ?_, by simp [hsl], ?_, ?_⟩
        · omega
        · rw [hget_set_self, hget_push_lt _ _ _ _ (by omega), hget_delO _ _ _ (by omega), hget_push_lt _ _ _ _ (by omega), hg8']; rfl
        · exact (Own.grown (by simp [hsl]) (by omega) (by omega)).to (Nat.le_refl _) rfl fun i hi => by
            simp only [bidN, bidA] at hi
            exact hget_set_ne _ _ _ _ (by omega)
        · intro j hj
          by_cases e : j = k
          · subst e
            refine ⟨n2, V[j]!.length, false, by rw [get_app_r _ _ _ (by omega) (by simp; omega), hsl, Nat.sub_self]; rfl, by omega, by omega, by unfold knownCap; rw [if_pos (by rw [Nat.blt_eq]; unfold big; omega)]; exact Nat.le_refl _, ?_, by simp only [bidN, bidA]; omega⟩
            rw [hget_set_ne _ _ _ _ (by omega), hget_push_lt _ _ _ _ (by omega), hget_delO _ _ _ (by omega), hget_push_lt _ _ _ _ (by omega)]
            exact hgn
          · obtain ⟨i, c, g, r1, r2, r3, r4, r5, r6⟩ := hrow j (by omega)
            refine ⟨i, c, g, by rw [get_app_l _ _ _ (by omega)]; exact r1, r2, by omega, r4, ?_, by simp only [bidN, bidA]; omega⟩
            rw [hget_set_ne _ _ _ _ (by omega), hget_push_lt _ _ _ _ (by omega), hget_delO _ _ _ r6, hget_push_lt _ _ _ _ (by omega), hgo _ r3]
            exact r5
        · have hlast : (ss ++ [Value.slice (some ⟨n2, 0, some 0⟩) V[k]!.length V[k]!.length])[k]! = .slice (some ⟨n2, 0, some 0⟩) V[k]!.length V[k]!.length := by rw [get_app_r _ _ _ (by omega) (by simp; omega), hsl, Nat.sub_self]; rfl
          have hold : ∀ j, j < k → (ss ++ [Value.slice (some ⟨n2, 0, some 0⟩) V[k]!.length V[k]!.length])[j]! = ss[j]! ∧ bidN ss[j]! ≤ n2 := fun j hj => by
            obtain ⟨i, c, g, r1, r2, r3, _⟩ := hrow j hj
            exact ⟨get_app_l _ _ _ (by omega), by rw [r1]; simp only [bidN, bidA]; omega⟩
          have hbl : bidN (Value.slice (some ⟨n2, 0, some 0⟩) V[k]!.length V[k]!.length) = n2 + 1 := rfl
          intro j j' hj hj' hne
          by_cases e : j = k
          · subst e
            obtain ⟨e1, e2⟩ := hold j' (by omega)
            rw [hlast, e1]; omega
          · obtain ⟨e1, e2⟩ := hold j (by omega)
            by_cases e' : j' = k
            · subst e'
              rw [hlast, e1]; omega
            · rw [e1, (hold j' (by omega)).1]; exact hsep j j' (by omega) (by omega) hne
      · have : k = V.length := by omega
        subst this
        have hone := ho.one
        have hx03 : HX nx h h2 := hx01.trans hx13 (by omega)
        have hN : NC w h2 (n1 + 1) n2 u ss V := by
          refine ⟨⟨ho.rdV (old := oldOf w) hsl.symm, hsl, ?_, hbd, ?_, t.lv, t.lr⟩, ?_, hsep, by omega⟩
          · intro j hj
            obtain ⟨i, c, g, r1, r2, r3, r4, r5, r6⟩ := hrow j hj
            rw [r1]
            exact Rd.newb r5 rfl rfl r4
          · intro j hj
            obtain ⟨i, c, g, r1, r2, r3, r4, r5, r6⟩ := hrow j hj
            rw [r1]; simp only [bidN, bidA]; omega
          · intro j hj
            obtain ⟨i, c, g, r1, r2, r3, r4, r5, r6⟩ := hrow j hj
            exact ⟨i, c, g, r1, by omega, r5, r6⟩
        have hfv := hN.fv
        have hfr := fun k hk => hN.bidr (k := k) hk
        by_cases hz : (wrongA q V).length = 0 ∧ (wrongB q V).length = 0
        · obtain ⟨hz1, hz2⟩ := hz
          have hA0 := List.length_eq_zero_iff.1 hz1
          have hB0 := List.length_eq_zero_iff.1 hz2
          repeat' (first | (simp (disch := first | omega | assumption | (exact id (by with_unfolding_all rfl)) | ((refine all_cons _ _ (by first | assumption | exact id (by with_unfolding_all rfl)) ?_); (repeat' (first | exact List.all_nil | refine all_cons _ _ (by first | assumption | exact id (by with_unfolding_all rfl)) ?_)); done) |  exact callP_old _ _ _ _ _ | exact one_int _ _ | exact one_bool _ | exact one_string _ | exact one_slice _ _ _ | exact one_pointer _ | exact hget_push_one _ _ _ _ (by omega) | (simp only [List.length_map, List.length_set, List.length_replicate, List.length_cons, List.length_nil]; omega) | (rw [hget_push_lt _ _ _ _ (by omega)]; first | assumption | exact hget_push_one _ _ _ _ (by omega))) only [WW0, WW1, WW2, WW3, WW4, WW5, WW6, WW7, Option.map_some, args0, slotsL, opdsA, List.cons_append, List.nil_append, List.map_cons, List.map_nil, List.append_nil, Option.toList_some, Option.toList_none, Nat.reduceEqDiff, Nat.reduceLT, Nat.reduceAdd, Nat.reduceBEq, Int.reduceAdd, Int.reduceSub, Int.reduceLT, Int.reduceLE, Int.reduceEq, Int.reduceNeg, ↓reduceIte, if_true, if_false, Bool.false_eq_true, Bool.not_true, Bool.not_false, List.length_cons, List.length_nil, List.length_singleton, reduceCtorEq, Int.toNat_natCast, Nat.zero_add, Nat.add_zero, Int.add_sub_cancel, eq_self, List.drop_zero, List.drop_succ_cons, Option.some.injEq, Prod.mk.injEq, mkFnA, Bool.and_true, Bool.true_and, Bool.and_self, c23l0, hlen, hrA.len, hrB.len, e5, e6, hg8]) | (refine does_goI_dec (fun _ => ?_) (fun _ => ?_)) | (refine does_goG_dec (fun _ => ?_) (fun _ => ?_)) | (refine does_goI (fun _ => ?_) (fun _ => ?_)) | (refine does_goG (fun _ => ?_) (fun _ => ?_)))
          refine ⟨_, _, rfl, (hx03.set _ (by omega)).set _ (by omega), by omega, ⟨q, u, ss, V, 0, 0, false, by simp [mendE, he, hA0, hB0, tupleOf], ?_, by simp [mendS, he, hA0, hB0]⟩⟩
          exact (hN.cb.set _ (by omega) (fun k hk => by have := hfr k hk; omega)).set _ (by omega) (fun k hk => by have := hfr k hk; omega)
        by_cases hw : (wrongA q V).length = 1 ∧ (wrongB q V).length = 1
        · obtain ⟨hw1, hw2⟩ := hw
          obtain ⟨ya, hya⟩ := List.length_eq_one_iff.1 hw1
          obtain ⟨xb, hxb⟩ := List.length_eq_one_iff.1 hw2
          have hym : 0 ≤ ya ∧ ya < V.length := sel_mem (cardP V) V.length ya (by have := hya; simp only [wrongA, hv, if_true] at this; rw [this]; simp)
          have hxm : 0 ≤ xb ∧ xb < (q + 1).toNat := sel_mem (placeP V) (q + 1).toNat xb (by have := hxb; simp only [wrongB, hv, if_true] at this; rw [this]; simp)
          obtain ⟨y, rfl⟩ : ∃ y : Nat, ya = (y : Int) := ⟨ya.toNat, by omega⟩
          obtain ⟨x, rfl⟩ : ∃ x : Nat, xb = (x : Int) := ⟨xb.toNat, by omega⟩
          have hy : y < V.length := by omega
          have hx : x < V[y]!.length := by have := v5 y hy; omega
          obtain ⟨i, c, g, hi, hni, hgi, hui⟩ := hN.row y hy
          have hbi := hN.cb.br y hy
          rw [hi] at hbi
          simp only [bidN, bidA] at hbi
          obtain ⟨ia, ca, rfl, hia⟩ := hfA (by rw [hya]; simp)
          obtain ⟨ib, cb, rfl, hib⟩ := hfB (by rw [hxb]; simp)
          simp only [bidN, bidA] at hbA hbB
          have rA2 := hrA.hx hx13 (by simp only [bidN, bidA]; omega)
          have rB2 := hrB.hx hx13 (by simp only [bidN, bidA]; omega)
          have l1 := hN.cb.len
          have ka : (wrongA q V)[Int.toNat 0]! = (y : Int) := by rw [hya]; rfl
          have kb : (wrongB q V)[Int.toNat 0]! = (x : Int) := by rw [hxb]; rfl
          have l2A : loadB (hget h2 ia) (Int.toNat 0) = some (.int .i64 y) := by have := ld_of (rA2.load 0 (by rw [hya]; simp)); rw [hya] at this; exact this
          have l2B : loadB (hget h2 ib) (Int.toNat 0) = some (.int .i64 x) := by have := ld_of (rB2.load 0 (by rw [hxb]; simp)); rw [hxb] at this; exact this
          obtain ⟨H5, hH5⟩ : ∃ H5, H5 = hset h2 (nx + 1 + 1) ⟨[.int .i64 x, .int .i64 y], 1, false, 47⟩ := ⟨_, rfl⟩
          have k2 : hget H5 (nx + 1) = some ⟨[.int .i64 0, .slice none 0 0], 1, false, 34⟩ := by subst hH5; rw [hget_set_ne _ _ _ _ (by omega)]; exact e5
          have k3 : hget H5 (nx + 1 + 1) = some ⟨[.int .i64 x, .int .i64 y], 1, false, 47⟩ := by subst hH5; rw [hget_set_self, e6]; rfl
          have k4 : hget H5 n1 = some ⟨[.int .i64 q, u], 1, false, 34⟩ := by subst hH5; rw [hget_set_ne _ _ _ _ (by omega)]; exact hg8
          have hN5 : NC w H5 (n1 + 1) n2 u ss V := by subst hH5; exact hN.set _ (by omega)
          have k5 : hget H5 i = some ⟨V[y]!.map Value.bool, 1, g, 4⟩ := by subst hH5; rw [hget_set_ne _ _ _ _ (by omega)]; exact hgi
          obtain ⟨H6, hH6⟩ : ∃ H6, H6 = hset H5 i ⟨(V[y]!.set x (!V[y]![x]!)).map Value.bool, 1, g, 4⟩ := ⟨_, rfl⟩
          have j4 : hget H6 n1 = some ⟨[.int .i64 q, u], 1, false, 34⟩ := by subst hH6; rw [hget_set_ne _ _ _ _ (by omega)]; exact k4
          have j2 : hget H6 (nx + 1) = some ⟨[.int .i64 0, .slice none 0 0], 1, false, 34⟩ := by subst hH6; rw [hget_set_ne _ _ _ _ (by omega)]; exact k2
          have j3 : hget H6 (nx + 1 + 1) = some ⟨[.int .i64 x, .int .i64 y], 1, false, 47⟩ := by subst hH6; rw [hget_set_ne _ _ _ _ (by omega)]; exact k3
          repeat' (first | (simp (disch := first | omega | assumption | (exact id (by with_unfolding_all rfl)) | ((refine all_cons _ _ (by first | assumption | exact id (by with_unfolding_all rfl)) ?_); (repeat' (first | exact List.all_nil | refine all_cons _ _ (by first | assumption | exact id (by with_unfolding_all rfl)) ?_)); done) |  exact callP_old _ _ _ _ _ | exact one_int _ _ | exact one_bool _ | exact one_string _ | exact one_slice _ _ _ | exact one_pointer _ | exact hget_push_one _ _ _ _ (by omega) | (simp only [List.length_map, List.length_set, List.length_replicate, List.length_cons, List.length_nil]; omega) | (rw [hget_push_lt _ _ _ _ (by omega)]; first | assumption | exact hget_push_one _ _ _ _ (by omega))) only [WW0, WW1, WW2, WW3, WW4, WW5, WW6, WW7, Option.map_some, args0, slotsL, opdsA, List.cons_append, List.nil_append, List.map_cons, List.map_nil, List.append_nil, Option.toList_some, Option.toList_none, Nat.reduceEqDiff, Nat.reduceLT, Nat.reduceAdd, Nat.reduceBEq, Int.reduceAdd, Int.reduceSub, Int.reduceLT, Int.reduceLE, Int.reduceEq, Int.reduceNeg, ↓reduceIte, if_true, if_false, Bool.false_eq_true, Bool.not_true, Bool.not_false, List.length_cons, List.length_nil, List.length_singleton, reduceCtorEq, Int.toNat_natCast, Nat.zero_add, Nat.add_zero, Int.add_sub_cancel, eq_self, List.drop_zero, List.drop_succ_cons, Option.some.injEq, Prod.mk.injEq, mkFnA, Bool.and_true, Bool.true_and, Bool.and_self, c23l0, hlen, hrA.len, hrB.len, e5, e6, hg8, vI, ka, kb, l2A, l2B]) | (refine does_goI_dec (fun _ => ?_) (fun _ => ?_)) | (refine does_goG_dec (fun _ => ?_) (fun _ => ?_)) | (refine does_goI (fun _ => ?_) (fun _ => ?_)) | (refine does_goG (fun _ => ?_) (fun _ => ?_)))
          rw [← hH5]
          have d1 : ¬ nx = nx + 1 := by omega
          repeat' (first | (simp (disch := first | omega | assumption | (exact id (by with_unfolding_all rfl)) | ((refine all_cons _ _ (by first | assumption | exact id (by with_unfolding_all rfl)) ?_); (repeat' (first | exact List.all_nil | refine all_cons _ _ (by first | assumption | exact id (by with_unfolding_all rfl)) ?_)); done) |  exact callP_old _ _ _ _ _ | exact one_int _ _ | exact one_bool _ | exact one_string _ | exact one_slice _ _ _ | exact one_pointer _ | exact hget_push_one _ _ _ _ (by omega) | (simp only [List.length_map, List.length_set, List.length_replicate, List.length_cons, List.length_nil]; omega) | (rw [hget_push_lt _ _ _ _ (by omega)]; first | assumption | exact hget_push_one _ _ _ _ (by omega))) only [WW0, WW1, WW2, WW3, WW4, WW5, WW6, WW7, Option.map_some, args0, slotsL, opdsA, List.cons_append, List.nil_append, List.map_cons, List.map_nil, List.append_nil, Option.toList_some, Option.toList_none, Nat.reduceEqDiff, Nat.reduceLT, Nat.reduceAdd, Nat.reduceBEq, Int.reduceAdd, Int.reduceSub, Int.reduceLT, Int.reduceLE, Int.reduceEq, Int.reduceNeg, ↓reduceIte, if_true, if_false, Bool.false_eq_true, Bool.not_true, Bool.not_false, List.length_cons, List.length_nil, List.length_singleton, reduceCtorEq, Int.toNat_natCast, Nat.zero_add, Nat.add_zero, Int.add_sub_cancel, eq_self, List.drop_zero, List.drop_succ_cons, Option.some.injEq, Prod.mk.injEq, mkFnA, Bool.and_true, Bool.true_and, Bool.and_self, d1, k2, k3, k4, k5, l1, hN5.cb.v.idx, hN5.cb.v.load, hi, ← hH6, j2, j3, j4]) | (refine does_goI_dec (fun _ => ?_) (fun _ => ?_)) | (refine does_goG_dec (fun _ => ?_) (fun _ => ?_)) | (refine does_goI (fun _ => ?_) (fun _ => ?_)) | (refine does_goG (fun _ => ?_) (fun _ => ?_)))
          have hx6 : HX nx h H6 := by subst hH6 hH5; exact (hx03.set _ (by omega)).set _ (by omega)
          have hcb := hN5.flip (x := x) (g := g) (b := !V[y]![x]!) hy hi hui
          rw [← hH6] at hcb
          refine ⟨_, _, rfl, (hx6.set _ (by omega)).set _ (by omega), by omega, ⟨q, u, ss, flip V y x, x, y, true, by simp [mendE, he, hya, hxb], ?_, by simp [mendS, he, hya, hxb]⟩⟩
          exact (CB.set hcb _ (by omega) (fun k hk => by have := hfr k (by rwa [List.length_set] at hk); omega)).set _ (by omega) (fun k hk => by have := hfr k (by rwa [List.length_set] at hk); omega)
        · have hw' : ¬ (wrongA q V).length = 1 ∨ ¬ (wrongB q V).length = 1 := by omega
          have h1 : (30 : Int) = mendE q V := by
            simp only [mendE, he, if_true]
            rw [if_neg (fun e => hz ⟨by rw [e.1]; rfl, by rw [e.2]; rfl⟩), if_neg hw]
          have h2 : mendS q V = (0, [], 0, 0, false) := by
            simp only [mendS, he, if_true]
            rw [if_neg (fun e => hz ⟨by rw [e.1]; rfl, by rw [e.2]; rfl⟩), if_neg hw]
          repeat' (first | (simp (disch := first | omega | assumption | (exact id (by with_unfolding_all rfl)) | ((refine all_cons _ _ (by first | assumption | exact id (by with_unfolding_all rfl)) ?_); (repeat' (first | exact List.all_nil | refine all_cons _ _ (by first | assumption | exact id (by with_unfolding_all rfl)) ?_)); done) |  exact callP_old _ _ _ _ _ | exact one_int _ _ | exact one_bool _ | exact one_string _ | exact one_slice _ _ _ | exact one_pointer _ | exact hget_push_one _ _ _ _ (by omega) | (simp only [List.length_map, List.length_set, List.length_replicate, List.length_cons, List.length_nil]; omega) | (rw [hget_push_lt _ _ _ _ (by omega)]; first | assumption | exact hget_push_one _ _ _ _ (by omega))) only [WW0, WW1, WW2, WW3, WW4, WW5, WW6, WW7, Option.map_some, args0, slotsL, opdsA, List.cons_append, List.nil_append, List.map_cons, List.map_nil, List.append_nil, Option.toList_some, Option.toList_none, Nat.reduceEqDiff, Nat.reduceLT, Nat.reduceAdd, Nat.reduceBEq, Int.reduceAdd, Int.reduceSub, Int.reduceLT, Int.reduceLE, Int.reduceEq, Int.reduceNeg, ↓reduceIte, if_true, if_false, Bool.false_eq_true, Bool.not_true, Bool.not_false, List.length_cons, List.length_nil, List.length_singleton, reduceCtorEq, Int.toNat_natCast, Nat.zero_add, Nat.add_zero, Int.add_sub_cancel, eq_self, List.drop_zero, List.drop_succ_cons, Option.some.injEq, Prod.mk.injEq, mkFnA, Bool.and_true, Bool.true_and, Bool.and_self, c23l0, zchain, hlen, hrA.len, hrB.len, e5, e6, hg8]) | (refine does_goI_dec (fun _ => ?_) (fun _ => ?_)) | (refine does_goG_dec (fun _ => ?_) (fun _ => ?_)) | (refine does_goI (fun _ => ?_) (fun _ => ?_)) | (refine does_goG (fun _ => ?_) (fun _ => ?_)))
          all_goals refine ⟨_, _, rfl, (hx03.set _ (by omega)).set _ (by omega), by omega, ⟨0, .slice none 0 0, [], [], 0, 0, false, by rw [← h1], CB.zero .., h2⟩⟩
  obtain ⟨v, s', hc, h', n', rfl, hq⟩ := key
  exact ⟨v, h', n', hc, hq⟩
end
end Go.Proofs.YtepdkmdcainddaaDoor
-- lib2
namespace Go.Proofs.YtepdkmdcainddaaDoor
open Go Go.Itp
set_option linter.unusedSimpArgs false
set_option linter.unusedVariables false
set_option maxRecDepth 100000
set_option maxHeartbeats 1000000
attribute [local irreducible] Does

/-! ### a grid -/
/-- a slice that reads as a grid's bits -/
structure GI (w : World) (h : Heap) (nx : Nat) (vB : Value) (B : List Bool) : Prop where
  v : Rd (oldOf w) h Value.bool vB B
  bv : bidN vB ≤ nx
  lb : B.length ≤ 140737488351232
theorem GI.push {w : World} {h : Heap} {nx nx' : Nat} {vB : Value} {B : List Bool} (t : GI w h nx vB B) (bs : List Blk) (hn : nx ≤ nx') : GI w (hpush h nx bs) nx' vB B :=
  ⟨t.v.push bs t.bv, Nat.le_trans t.bv hn, t.lb⟩
theorem GI.hx {w : World} {h h' : Heap} {nx nx' : Nat} {vB : Value} {B : List Bool} (t : GI w h nx vB B) (hx : HX nx h h') (hn : nx ≤ nx') : GI w h' nx' vB B :=
  ⟨t.v.hx hx t.bv, Nat.le_trans t.bv hn, t.lb⟩
def chkG (a b : Int) (L : Nat) : Int := if 64 < a ∨ 64 < b then 4 else if a < 1 ∨ b < 1 then 8 else if (L : Int) = a * b then 0 else 8
def chkE (a b : Int) (L : Nat) : Int := if chkG a b L = 0 then (if 40 < a then 8 else 0) else chkG a b L
def fitS (a b : Int) (L : Nat) : Bool := decide (L ≤ 4200 ∧ chkE a b L = 0)
theorem prod_le {a b : Int} (h1 : 1 ≤ a) (h2 : a ≤ 64) (h3 : 1 ≤ b) (h4 : b ≤ 64) : 1 ≤ a * b ∧ a * b ≤ 4096 := by
  have e1 : a * b ≤ 64 * 64 := Int.mul_le_mul h2 h4 (by omega) (by omega)
  have e2 : 1 * 1 ≤ a * b := Int.mul_le_mul h1 h3 (by omega) (by omega)
  omega
section
variable (w : World) (n : Nat) {vB : Value} {B : List Bool} {h : Heap} {nx p : Nat}
theorem check44_p (t : GI w h nx vB B) (a b : Int) (ha : -9223372036854775808 ≤ a ∧ a ≤ 9223372036854775807) (hb : -9223372036854775808 ≤ b ∧ b ≤ 9223372036854775807) :
    (EN w (n + 1)).pcall 44 [.agg [.int .i64 a, .int .i64 b, vB].toArray] ⟨h, nx, p⟩ = some (.int .i64 (chkG a b B.length), []) := by
  refine pcall_eq rfl rfl (Nat.le_of_ble_eq_true rfl) ?_
  have t' := t.push [⟨[.int .i64 a, .int .i64 b, vB], 1, false, 24⟩] (nx' := nx + 1) (by omega)
  have hlb := t.lb
  by_cases h1 : 64 < a
  · have e : chkG a b B.length = 4 := if_pos (Or.inl h1)
    rw [e]
    repeat' (first | (simp (disch := first | omega | assumption | (exact id (by with_unfolding_all rfl)) | ((refine all_cons _ _ (by first | assumption | exact id (by with_unfolding_all rfl)) ?_); (repeat' (first | exact List.all_nil | refine all_cons _ _ (by first | assumption | exact id (by with_unfolding_all rfl)) ?_)); done) |  exact callP_old _ _ _ _ _ | exact one_int _ _ | exact one_bool _ | exact one_string _ | exact one_slice _ _ _ | exact one_pointer _ | exact hget_push_one _ _ _ _ (by omega) | (simp only [List.length_map, List.length_set, List.length_replicate, List.length_cons, List.length_nil]; omega) | (rw [hget_push_lt _ _ _ _ (by omega)]; first | assumption | exact hget_push_one _ _ _ _ (by omega))) only [WW0, WW1, WW2, WW3, WW4, WW5, WW6, WW7, Option.map_some, args0, slotsL, opdsA, List.cons_append, List.nil_append, List.map_cons, List.map_nil, List.append_nil, Option.toList_some, Option.toList_none, Nat.reduceEqDiff, Nat.reduceLT, Nat.reduceAdd, Nat.reduceBEq, Int.reduceAdd, Int.reduceSub, Int.reduceLT, Int.reduceLE, Int.reduceEq, Int.reduceNeg, ↓reduceIte, if_true, if_false, Bool.false_eq_true, Bool.not_true, Bool.not_false, List.length_cons, List.length_nil, List.length_singleton, reduceCtorEq, Int.toNat_natCast, Nat.zero_add, Nat.add_zero, Int.add_sub_cancel, eq_self, List.drop_zero, List.drop_succ_cons, Option.some.injEq, Prod.mk.injEq, mkFnA, Bool.and_true, Bool.true_and, Bool.and_self, t'.v.len]) | (refine does_goI_dec (fun _ => ?_) (fun _ => ?_)) | (refine does_goG_dec (fun _ => ?_) (fun _ => ?_)) | (refine does_goI (fun _ => ?_) (fun _ => ?_)) | (refine does_goG (fun _ => ?_) (fun _ => ?_)))
  by_cases h2 : 64 < b
  · have e : chkG a b B.length = 4 := if_pos (Or.inr h2)
    rw [e]
    repeat' (first | (simp (disch := first | omega | assumption | (exact id (by with_unfolding_all rfl)) | ((refine all_cons _ _ (by first | assumption | exact id (by with_unfolding_all rfl)) ?_); (repeat' (first | exact List.all_nil | refine all_cons _ _ (by first | assumption | exact id (by with_unfolding_all rfl)) ?_)); done) |  exact callP_old _ _ _ _ _ | exact one_int _ _ | exact one_bool _ | exact one_string _ | exact one_slice _ _ _ | exact one_pointer _ | exact hget_push_one _ _ _ _ (by omega) | (simp only [List.length_map, List.length_set, List.length_replicate, List.length_cons, List.length_nil]; omega) | (rw [hget_push_lt _ _ _ _ (by omega)]; first | assumption | exact hget_push_one _ _ _ _ (by omega))) only [WW0, WW1, WW2, WW3, WW4, WW5, WW6, WW7, Option.map_some, args0, slotsL, opdsA, List.cons_append, List.nil_append, List.map_cons, List.map_nil, List.append_nil, Option.toList_some, Option.toList_none, Nat.reduceEqDiff, Nat.reduceLT, Nat.reduceAdd, Nat.reduceBEq, Int.reduceAdd, Int.reduceSub, Int.reduceLT, Int.reduceLE, Int.reduceEq, Int.reduceNeg, ↓reduceIte, if_true, if_false, Bool.false_eq_true, Bool.not_true, Bool.not_false, List.length_cons, List.length_nil, List.length_singleton, reduceCtorEq, Int.toNat_natCast, Nat.zero_add, Nat.add_zero, Int.add_sub_cancel, eq_self, List.drop_zero, List.drop_succ_cons, Option.some.injEq, Prod.mk.injEq, mkFnA, Bool.and_true, Bool.true_and, Bool.and_self, t'.v.len]) | (refine does_goI_dec (fun _ => ?_) (fun _ => ?_)) | (refine does_goG_dec (fun _ => ?_) (fun _ => ?_)) | (refine does_goI (fun _ => ?_) (fun _ => ?_)) | (refine does_goG (fun _ => ?_) (fun _ => ?_)))
  by_cases h3 : a < 1
  · have e : chkG a b B.length = 8 := by unfold chkG; rw [if_neg (by omega), if_pos (Or.inl h3)]
    rw [e]
    repeat' (first | (simp (disch := first | omega | assumption | (exact id (by with_unfolding_all rfl)) | ((refine all_cons _ _ (by first | assumption | exact id (by with_unfolding_all rfl)) ?_); (repeat' (first | exact List.all_nil | refine all_cons _ _ (by first | assumption | exact id (by with_unfolding_all rfl)) ?_)); done) |  exact callP_old _ _ _ _ _ | exact one_int _ _ | exact one_bool _ | exact one_string _ | exact one_slice _ _ _ | exact one_pointer _ | exact hget_push_one _ _ _ _ (by omega) | (simp only [List.length_map, List.length_set, List.length_replicate, List.length_cons, List.length_nil]; omega) | (rw [hget_push_lt _ _ _ _ (by omega)]; first | assumption | exact hget_push_one _ _ _ _ (by omega))) only [WW0, WW1, WW2, WW3, WW4, WW5, WW6, WW7, Option.map_some, args0, slotsL, opdsA, List.cons_append, List.nil_append, List.map_cons, List.map_nil, List.append_nil, Option.toList_some, Option.toList_none, Nat.reduceEqDiff, Nat.reduceLT, Nat.reduceAdd, Nat.reduceBEq, Int.reduceAdd, Int.reduceSub, Int.reduceLT, Int.reduceLE, Int.reduceEq, Int.reduceNeg, ↓reduceIte, if_true, if_false, Bool.false_eq_true, Bool.not_true, Bool.not_false, List.length_cons, List.length_nil, List.length_singleton, reduceCtorEq, Int.toNat_natCast, Nat.zero_add, Nat.add_zero, Int.add_sub_cancel, eq_self, List.drop_zero, List.drop_succ_cons, Option.some.injEq, Prod.mk.injEq, mkFnA, Bool.and_true, Bool.true_and, Bool.and_self, t'.v.len]) | (refine does_goI_dec (fun _ => ?_) (fun _ => ?_)) | (refine does_goG_dec (fun _ => ?_) (fun _ => ?_)) | (refine does_goI (fun _ => ?_) (fun _ => ?_)) | (refine does_goG (fun _ => ?_) (fun _ => ?_)))
  by_cases h4 : b < 1
  · have e : chkG a b B.length = 8 := by unfold chkG; rw [if_neg (by omega), if_pos (Or.inr h4)]
    rw [e]
    repeat' (first | (simp (disch := first | omega | assumption | (exact id (by with_unfolding_all rfl)) | ((refine all_cons _ _ (by first | assumption | exact id (by with_unfolding_all rfl)) ?_); (repeat' (first | exact List.all_nil | refine all_cons _ _ (by first | assumption | exact id (by with_unfolding_all rfl)) ?_)); done) |  exact callP_old _ _ _ _ _ | exact one_int _ _ | exact one_bool _ | exact one_string _ | exact one_slice _ _ _ | exact one_pointer _ | exact hget_push_one _ _ _ _ (by omega) | (simp only [List.length_map, List.length_set, List.length_replicate, List.length_cons, List.length_nil]; omega) | (rw [hget_push_lt _ _ _ _ (by omega)]; first | assumption | exact hget_push_one _ _ _ _ (by omega))) only [WW0, WW1, WW2, WW3, WW4, WW5, WW6, WW7, Option.map_some, args0, slotsL, opdsA, List.cons_append, List.nil_append, List.map_cons, List.map_nil, List.append_nil, Option.toList_some, Option.toList_none, Nat.reduceEqDiff, Nat.reduceLT, Nat.reduceAdd, Nat.reduceBEq, Int.reduceAdd, Int.reduceSub, Int.reduceLT, Int.reduceLE, Int.reduceEq, Int.reduceNeg, ↓reduceIte, if_true, if_false, Bool.false_eq_true, Bool.not_true, Bool.not_false, List.length_cons, List.length_nil, List.length_singleton, reduceCtorEq, Int.toNat_natCast, Nat.zero_add, Nat.add_zero, Int.add_sub_cancel, eq_self, List.drop_zero, List.drop_succ_cons, Option.some.injEq, Prod.mk.injEq, mkFnA, Bool.and_true, Bool.true_and, Bool.and_self, t'.v.len]) | (refine does_goI_dec (fun _ => ?_) (fun _ => ?_)) | (refine does_goG_dec (fun _ => ?_) (fun _ => ?_)) | (refine does_goI (fun _ => ?_) (fun _ => ?_)) | (refine does_goG (fun _ => ?_) (fun _ => ?_)))
  have hp := prod_le (a := a) (b := b) (by omega) (by omega) (by omega) (by omega)
  have e : chkG a b B.length = if (B.length : Int) = a * b then 0 else 8 := by unfold chkG; rw [if_neg (by omega), if_neg (by omega)]
  rw [e]
  generalize hP : a * b = P at *
  by_cases h5 : (B.length : Int) = P
  · rw [if_pos h5]
    repeat' (first | (simp (disch := first | omega | assumption | (exact id (by with_unfolding_all rfl)) | ((refine all_cons _ _ (by first | assumption | exact id (by with_unfolding_all rfl)) ?_); (repeat' (first | exact List.all_nil | refine all_cons _ _ (by first | assumption | exact id (by with_unfolding_all rfl)) ?_)); done) |  exact callP_old _ _ _ _ _ | exact one_int _ _ | exact one_bool _ | exact one_string _ | exact one_slice _ _ _ | exact one_pointer _ | exact hget_push_one _ _ _ _ (by omega) | (simp only [List.length_map, List.length_set, List.length_replicate, List.length_cons, List.length_nil]; omega) | (rw [hget_push_lt _ _ _ _ (by omega)]; first | assumption | exact hget_push_one _ _ _ _ (by omega))) only [WW0, WW1, WW2, WW3, WW4, WW5, WW6, WW7, Option.map_some, args0, slotsL, opdsA, List.cons_append, List.nil_append, List.map_cons, List.map_nil, List.append_nil, Option.toList_some, Option.toList_none, Nat.reduceEqDiff, Nat.reduceLT, Nat.reduceAdd, Nat.reduceBEq, Int.reduceAdd, Int.reduceSub, Int.reduceLT, Int.reduceLE, Int.reduceEq, Int.reduceNeg, ↓reduceIte, if_true, if_false, Bool.false_eq_true, Bool.not_true, Bool.not_false, List.length_cons, List.length_nil, List.length_singleton, reduceCtorEq, Int.toNat_natCast, Nat.zero_add, Nat.add_zero, Int.add_sub_cancel, eq_self, List.drop_zero, List.drop_succ_cons, Option.some.injEq, Prod.mk.injEq, mkFnA, Bool.and_true, Bool.true_and, Bool.and_self, t'.v.len, hP]) | (refine does_goI_dec (fun _ => ?_) (fun _ => ?_)) | (refine does_goG_dec (fun _ => ?_) (fun _ => ?_)) | (refine does_goI (fun _ => ?_) (fun _ => ?_)) | (refine does_goG (fun _ => ?_) (fun _ => ?_)))
  · rw [if_neg h5]
    repeat' (first | (simp (disch := first | omega | assumption | (exact id (by with_unfolding_all rfl)) | ((refine all_cons _ _ (by first | assumption | exact id (by with_unfolding_all rfl)) ?_); (repeat' (first | exact List.all_nil | refine all_cons _ _ (by first | assumption | exact id (by with_unfolding_all rfl)) ?_)); done) |  exact callP_old _ _ _ _ _ | exact one_int _ _ | exact one_bool _ | exact one_string _ | exact one_slice _ _ _ | exact one_pointer _ | exact hget_push_one _ _ _ _ (by omega) | (simp only [List.length_map, List.length_set, List.length_replicate, List.length_cons, List.length_nil]; omega) | (rw [hget_push_lt _ _ _ _ (by omega)]; first | assumption | exact hget_push_one _ _ _ _ (by omega))) only [WW0, WW1, WW2, WW3, WW4, WW5, WW6, WW7, Option.map_some, args0, slotsL, opdsA, List.cons_append, List.nil_append, List.map_cons, List.map_nil, List.append_nil, Option.toList_some, Option.toList_none, Nat.reduceEqDiff, Nat.reduceLT, Nat.reduceAdd, Nat.reduceBEq, Int.reduceAdd, Int.reduceSub, Int.reduceLT, Int.reduceLE, Int.reduceEq, Int.reduceNeg, ↓reduceIte, if_true, if_false, Bool.false_eq_true, Bool.not_true, Bool.not_false, List.length_cons, List.length_nil, List.length_singleton, reduceCtorEq, Int.toNat_natCast, Nat.zero_add, Nat.add_zero, Int.add_sub_cancel, eq_self, List.drop_zero, List.drop_succ_cons, Option.some.injEq, Prod.mk.injEq, mkFnA, Bool.and_true, Bool.true_and, Bool.and_self, t'.v.len, hP]) | (refine does_goI_dec (fun _ => ?_) (fun _ => ?_)) | (refine does_goG_dec (fun _ => ?_) (fun _ => ?_)) | (refine does_goI (fun _ => ?_) (fun _ => ?_)) | (refine does_goG (fun _ => ?_) (fun _ => ?_)))
theorem check43_p (t : GI w h nx vB B) (a b : Int) (ha : -9223372036854775808 ≤ a ∧ a ≤ 9223372036854775807) (hb : -9223372036854775808 ≤ b ∧ b ≤ 9223372036854775807) :
    (EN w (n + 1)).pcall 43 [.agg [.int .i64 a, .int .i64 b, vB].toArray] ⟨h, nx, p⟩ = some (.int .i64 (chkG a b B.length), []) := by
  refine pcall_eq rfl rfl (Nat.le_of_ble_eq_true rfl) ?_
  have t' := t.push [⟨[.int .i64 a, .int .i64 b, vB], 1, false, 24⟩] (nx' := nx + 1) (by omega)
  have hlb := t.lb
  by_cases h1 : 64 < a ∨ 64 < b
  · have e : chkG a b B.length = 4 := if_pos h1
    rw [e]
    have hm : 64 < max a b := by omega
    repeat' (first | (simp (disch := first | omega | assumption | (exact id (by with_unfolding_all rfl)) | ((refine all_cons _ _ (by first | assumption | exact id (by with_unfolding_all rfl)) ?_); (repeat' (first | exact List.all_nil | refine all_cons _ _ (by first | assumption | exact id (by with_unfolding_all rfl)) ?_)); done) |  exact callP_old _ _ _ _ _ | exact one_int _ _ | exact one_bool _ | exact one_string _ | exact one_slice _ _ _ | exact one_pointer _ | exact hget_push_one _ _ _ _ (by omega) | (simp only [List.length_map, List.length_set, List.length_replicate, List.length_cons, List.length_nil]; omega) | (rw [hget_push_lt _ _ _ _ (by omega)]; first | assumption | exact hget_push_one _ _ _ _ (by omega))) only [WW0, WW1, WW2, WW3, WW4, WW5, WW6, WW7, Option.map_some, args0, slotsL, opdsA, List.cons_append, List.nil_append, List.map_cons, List.map_nil, List.append_nil, Option.toList_some, Option.toList_none, Nat.reduceEqDiff, Nat.reduceLT, Nat.reduceAdd, Nat.reduceBEq, Int.reduceAdd, Int.reduceSub, Int.reduceLT, Int.reduceLE, Int.reduceEq, Int.reduceNeg, ↓reduceIte, if_true, if_false, Bool.false_eq_true, Bool.not_true, Bool.not_false, List.length_cons, List.length_nil, List.length_singleton, reduceCtorEq, Int.toNat_natCast, Nat.zero_add, Nat.add_zero, Int.add_sub_cancel, eq_self, List.drop_zero, List.drop_succ_cons, Option.some.injEq, Prod.mk.injEq, mkFnA, Bool.and_true, Bool.true_and, Bool.and_self, t'.v.len]) | (refine does_goI_dec (fun _ => ?_) (fun _ => ?_)) | (refine does_goG_dec (fun _ => ?_) (fun _ => ?_)) | (refine does_goI (fun _ => ?_) (fun _ => ?_)) | (refine does_goG (fun _ => ?_) (fun _ => ?_)))
  have hm : ¬ 64 < max a b := by omega
  by_cases h3 : a < 1 ∨ b < 1
  · have e : chkG a b B.length = 8 := by unfold chkG; rw [if_neg h1, if_pos h3]
    rw [e]
    have hk : min a b < 1 := by omega
    repeat' (first | (simp (disch := first | omega | assumption | (exact id (by with_unfolding_all rfl)) | ((refine all_cons _ _ (by first | assumption | exact id (by with_unfolding_all rfl)) ?_); (repeat' (first | exact List.all_nil | refine all_cons _ _ (by first | assumption | exact id (by with_unfolding_all rfl)) ?_)); done) |  exact callP_old _ _ _ _ _ | exact one_int _ _ | exact one_bool _ | exact one_string _ | exact one_slice _ _ _ | exact one_pointer _ | exact hget_push_one _ _ _ _ (by omega) | (simp only [List.length_map, List.length_set, List.length_replicate, List.length_cons, List.length_nil]; omega) | (rw [hget_push_lt _ _ _ _ (by omega)]; first | assumption | exact hget_push_one _ _ _ _ (by omega))) only [WW0, WW1, WW2, WW3, WW4, WW5, WW6, WW7, Option.map_some, args0, slotsL, opdsA, List.cons_append, List.nil_append, List.map_cons, List.map_nil, List.append_nil, Option.toList_some, Option.toList_none, Nat.reduceEqDiff, Nat.reduceLT, Nat.reduceAdd, Nat.reduceBEq, Int.reduceAdd, Int.reduceSub, Int.reduceLT, Int.reduceLE, Int.reduceEq, Int.reduceNeg, ↓reduceIte, if_true, if_false, Bool.false_eq_true, Bool.not_true, Bool.not_false, List.length_cons, List.length_nil, List.length_singleton, reduceCtorEq, Int.toNat_natCast, Nat.zero_add, Nat.add_zero, Int.add_sub_cancel, eq_self, List.drop_zero, List.drop_succ_cons, Option.some.injEq, Prod.mk.injEq, mkFnA, Bool.and_true, Bool.true_and, Bool.and_self, t'.v.len]) | (refine does_goI_dec (fun _ => ?_) (fun _ => ?_)) | (refine does_goG_dec (fun _ => ?_) (fun _ => ?_)) | (refine does_goI (fun _ => ?_) (fun _ => ?_)) | (refine does_goG (fun _ => ?_) (fun _ => ?_)))
  have hk : ¬ min a b < 1 := by omega
  have hp := prod_le (a := a) (b := b) (by omega) (by omega) (by omega) (by omega)
  have e : chkG a b B.length = if (B.length : Int) = a * b then 0 else 8 := by unfold chkG; rw [if_neg h1, if_neg h3]
  rw [e]
  generalize hP : a * b = P at *
  by_cases h5 : (B.length : Int) = P
  · rw [if_pos h5]
    repeat' (first | (simp (disch := first | omega | assumption | (exact id (by with_unfolding_all rfl)) | ((refine all_cons _ _ (by first | assumption | exact id (by with_unfolding_all rfl)) ?_); (repeat' (first | exact List.all_nil | refine all_cons _ _ (by first | assumption | exact id (by with_unfolding_all rfl)) ?_)); done) |  exact callP_old _ _ _ _ _ | exact one_int _ _ | exact one_bool _ | exact one_string _ | exact one_slice _ _ _ | exact one_pointer _ | exact hget_push_one _ _ _ _ (by omega) | (simp only [List.length_map, List.length_set, List.length_replicate, List.length_cons, List.length_nil]; omega) | (rw [hget_push_lt _ _ _ _ (by omega)]; first | assumption | exact hget_push_one _ _ _ _ (by omega))) only [WW0, WW1, WW2, WW3, WW4, WW5, WW6, WW7, Option.map_some, args0, slotsL, opdsA, List.cons_append, List.nil_append, List.map_cons, List.map_nil, List.append_nil, Option.toList_some, Option.toList_none, Nat.reduceEqDiff, Nat.reduceLT, Nat.reduceAdd, Nat.reduceBEq, Int.reduceAdd, Int.reduceSub, Int.reduceLT, Int.reduceLE, Int.reduceEq, Int.reduceNeg, ↓reduceIte, if_true, if_false, Bool.false_eq_true, Bool.not_true, Bool.not_false, List.length_cons, List.length_nil, List.length_singleton, reduceCtorEq, Int.toNat_natCast, Nat.zero_add, Nat.add_zero, Int.add_sub_cancel, eq_self, List.drop_zero, List.drop_succ_cons, Option.some.injEq, Prod.mk.injEq, mkFnA, Bool.and_true, Bool.true_and, Bool.and_self, t'.v.len, hP]) | (refine does_goI_dec (fun _ => ?_) (fun _ => ?_)) | (refine does_goG_dec (fun _ => ?_) (fun _ => ?_)) | (refine does_goI (fun _ => ?_) (fun _ => ?_)) | (refine does_goG (fun _ => ?_) (fun _ => ?_)))
  · rw [if_neg h5]
    repeat' (first | (simp (disch := first | omega | assumption | (exact id (by with_unfolding_all rfl)) | ((refine all_cons _ _ (by first | assumption | exact id (by with_unfolding_all rfl)) ?_); (repeat' (first | exact List.all_nil | refine all_cons _ _ (by first | assumption | exact id (by with_unfolding_all rfl)) ?_)); done) |  exact callP_old _ _ _ _ _ | exact one_int _ _ | exact one_bool _ | exact one_string _ | exact one_slice _ _ _ | exact one_pointer _ | exact hget_push_one _ _ _ _ (by omega) | (simp only [List.length_map, List.length_set, List.length_replicate, List.length_cons, List.length_nil]; omega) | (rw [hget_push_lt _ _ _ _ (by omega)]; first | assumption | exact hget_push_one _ _ _ _ (by omega))) only [WW0, WW1, WW2, WW3, WW4, WW5, WW6, WW7, Option.map_some, args0, slotsL, opdsA, List.cons_append, List.nil_append, List.map_cons, List.map_nil, List.append_nil, Option.toList_some, Option.toList_none, Nat.reduceEqDiff, Nat.reduceLT, Nat.reduceAdd, Nat.reduceBEq, Int.reduceAdd, Int.reduceSub, Int.reduceLT, Int.reduceLE, Int.reduceEq, Int.reduceNeg, ↓reduceIte, if_true, if_false, Bool.false_eq_true, Bool.not_true, Bool.not_false, List.length_cons, List.length_nil, List.length_singleton, reduceCtorEq, Int.toNat_natCast, Nat.zero_add, Nat.add_zero, Int.add_sub_cancel, eq_self, List.drop_zero, List.drop_succ_cons, Option.some.injEq, Prod.mk.injEq, mkFnA, Bool.and_true, Bool.true_and, Bool.and_self, t'.v.len, hP]) | (refine does_goI_dec (fun _ => ?_) (fun _ => ?_)) | (refine does_goG_dec (fun _ => ?_) (fun _ => ?_)) | (refine does_goI (fun _ => ?_) (fun _ => ?_)) | (refine does_goG (fun _ => ?_) (fun _ => ?_)))
end
end Go.Proofs.YtepdkmdcainddaaDoor
-- lib2
namespace Go.Proofs.YtepdkmdcainddaaDoor
open Go Go.Itp
set_option linter.unusedSimpArgs false
set_option linter.unusedVariables false
set_option maxRecDepth 100000
set_option maxHeartbeats 1000000
attribute [local irreducible] Does

section
variable (w : World) (n : Nat) {vB : Value} {B : List Bool} {h : Heap} {nx p : Nat}
theorem rcheck_p (t : GI w h nx vB B) (a b : Int) (ha : -9223372036854775808 ≤ a ∧ a ≤ 9223372036854775807) (hb : -9223372036854775808 ≤ b ∧ b ≤ 9223372036854775807) :
    (EN w (n + 2)).pcall 16 [.agg [.int .i64 a, .int .i64 b, vB].toArray] ⟨h, nx, p⟩ = some (.int .i64 (chkE a b B.length), []) := by
  refine pcall_eq rfl rfl (Nat.le_of_ble_eq_true rfl) ?_
  have t' := t.push [⟨[.int .i64 a, .int .i64 b, vB], 1, false, 24⟩] (nx' := nx + 1) (by omega)
  have hc := check44_p w n (p := nx) t' a b ha hb
  by_cases h1 : chkG a b B.length = 0
  · by_cases h2 : 40 < a
    · have e : chkE a b B.length = 8 := by unfold chkE; rw [if_pos h1, if_pos h2]
      rw [e]
      repeat' (first | (simp (disch := first | omega | assumption | (exact id (by with_unfolding_all rfl)) | ((refine all_cons _ _ (by first | assumption | exact id (by with_unfolding_all rfl)) ?_); (repeat' (first | exact List.all_nil | refine all_cons _ _ (by first | assumption | exact id (by with_unfolding_all rfl)) ?_)); done) |  exact callP_old _ _ _ _ _ | exact one_int _ _ | exact one_bool _ | exact one_string _ | exact one_slice _ _ _ | exact one_pointer _ | exact hget_push_one _ _ _ _ (by omega) | (simp only [List.length_map, List.length_set, List.length_replicate, List.length_cons, List.length_nil]; omega) | (rw [hget_push_lt _ _ _ _ (by omega)]; first | assumption | exact hget_push_one _ _ _ _ (by omega))) only [WW0, WW1, WW2, WW3, WW4, WW5, WW6, WW7, Option.map_some, args0, slotsL, opdsA, List.cons_append, List.nil_append, List.map_cons, List.map_nil, List.append_nil, Option.toList_some, Option.toList_none, Nat.reduceEqDiff, Nat.reduceLT, Nat.reduceAdd, Nat.reduceBEq, Int.reduceAdd, Int.reduceSub, Int.reduceLT, Int.reduceLE, Int.reduceEq, Int.reduceNeg, ↓reduceIte, if_true, if_false, Bool.false_eq_true, Bool.not_true, Bool.not_false, List.length_cons, List.length_nil, List.length_singleton, reduceCtorEq, Int.toNat_natCast, Nat.zero_add, Nat.add_zero, Int.add_sub_cancel, eq_self, List.drop_zero, List.drop_succ_cons, Option.some.injEq, Prod.mk.injEq, mkFnA, Bool.and_true, Bool.true_and, Bool.and_self, hc, h1]) | (refine does_goI_dec (fun _ => ?_) (fun _ => ?_)) | (refine does_goG_dec (fun _ => ?_) (fun _ => ?_)) | (refine does_goI (fun _ => ?_) (fun _ => ?_)) | (refine does_goG (fun _ => ?_) (fun _ => ?_)))
    · have e : chkE a b B.length = 0 := by unfold chkE; rw [if_pos h1, if_neg h2]
      rw [e]
      repeat' (first | (simp (disch := first | omega | assumption | (exact id (by with_unfolding_all rfl)) | ((refine all_cons _ _ (by first | assumption | exact id (by with_unfolding_all rfl)) ?_); (repeat' (first | exact List.all_nil | refine all_cons _ _ (by first | assumption | exact id (by with_unfolding_all rfl)) ?_)); done) |  exact callP_old _ _ _ _ _ | exact one_int _ _ | exact one_bool _ | exact one_string _ | exact one_slice _ _ _ | exact one_pointer _ | exact hget_push_one _ _ _ _ (by omega) | (simp only [List.length_map, List.length_set, List.length_replicate, List.length_cons, List.length_nil]; omega) | (rw [hget_push_lt _ _ _ _ (by omega)]; first | assumption | exact hget_push_one _ _ _ _ (by omega))) only [WW0, WW1, WW2, WW3, WW4, WW5, WW6, WW7, Option.map_some, args0, slotsL, opdsA, List.cons_append, List.nil_append, List.map_cons, List.map_nil, List.append_nil, Option.toList_some, Option.toList_none, Nat.reduceEqDiff, Nat.reduceLT, Nat.reduceAdd, Nat.reduceBEq, Int.reduceAdd, Int.reduceSub, Int.reduceLT, Int.reduceLE, Int.reduceEq, Int.reduceNeg, ↓reduceIte, if_true, if_false, Bool.false_eq_true, Bool.not_true, Bool.not_false, List.length_cons, List.length_nil, List.length_singleton, reduceCtorEq, Int.toNat_natCast, Nat.zero_add, Nat.add_zero, Int.add_sub_cancel, eq_self, List.drop_zero, List.drop_succ_cons, Option.some.injEq, Prod.mk.injEq, mkFnA, Bool.and_true, Bool.true_and, Bool.and_self, hc, h1]) | (refine does_goI_dec (fun _ => ?_) (fun _ => ?_)) | (refine does_goG_dec (fun _ => ?_) (fun _ => ?_)) | (refine does_goI (fun _ => ?_) (fun _ => ?_)) | (refine does_goG (fun _ => ?_) (fun _ => ?_)))
  · have e : chkE a b B.length = chkG a b B.length := by unfold chkE; rw [if_neg h1]
    rw [e]
    repeat' (first | (simp (disch := first | omega | assumption | (exact id (by with_unfolding_all rfl)) | ((refine all_cons _ _ (by first | assumption | exact id (by with_unfolding_all rfl)) ?_); (repeat' (first | exact List.all_nil | refine all_cons _ _ (by first | assumption | exact id (by with_unfolding_all rfl)) ?_)); done) |  exact callP_old _ _ _ _ _ | exact one_int _ _ | exact one_bool _ | exact one_string _ | exact one_slice _ _ _ | exact one_pointer _ | exact hget_push_one _ _ _ _ (by omega) | (simp only [List.length_map, List.length_set, List.length_replicate, List.length_cons, List.length_nil]; omega) | (rw [hget_push_lt _ _ _ _ (by omega)]; first | assumption | exact hget_push_one _ _ _ _ (by omega))) only [WW0, WW1, WW2, WW3, WW4, WW5, WW6, WW7, Option.map_some, args0, slotsL, opdsA, List.cons_append, List.nil_append, List.map_cons, List.map_nil, List.append_nil, Option.toList_some, Option.toList_none, Nat.reduceEqDiff, Nat.reduceLT, Nat.reduceAdd, Nat.reduceBEq, Int.reduceAdd, Int.reduceSub, Int.reduceLT, Int.reduceLE, Int.reduceEq, Int.reduceNeg, ↓reduceIte, if_true, if_false, Bool.false_eq_true, Bool.not_true, Bool.not_false, List.length_cons, List.length_nil, List.length_singleton, reduceCtorEq, Int.toNat_natCast, Nat.zero_add, Nat.add_zero, Int.add_sub_cancel, eq_self, List.drop_zero, List.drop_succ_cons, Option.some.injEq, Prod.mk.injEq, mkFnA, Bool.and_true, Bool.true_and, Bool.and_self, hc, h1]) | (refine does_goI_dec (fun _ => ?_) (fun _ => ?_)) | (refine does_goG_dec (fun _ => ?_) (fun _ => ?_)) | (refine does_goI (fun _ => ?_) (fun _ => ?_)) | (refine does_goG (fun _ => ?_) (fun _ => ?_)))
theorem pcheck_p (t : GI w h nx vB B) (a b : Int) (ha : -9223372036854775808 ≤ a ∧ a ≤ 9223372036854775807) (hb : -9223372036854775808 ≤ b ∧ b ≤ 9223372036854775807) :
    (EN w (n + 2)).pcall 15 [.agg [.int .i64 a, .int .i64 b, vB].toArray] ⟨h, nx, p⟩ = some (.int .i64 (chkE a b B.length), []) := by
  refine pcall_eq rfl rfl (Nat.le_of_ble_eq_true rfl) ?_
  have t' := t.push [⟨[.int .i64 a, .int .i64 b, vB], 1, false, 24⟩] (nx' := nx + 1) (by omega)
  have hc := check43_p w n (p := nx) t' a b ha hb
  by_cases h1 : chkG a b B.length = 0
  · by_cases h2 : 40 < a
    · have e : chkE a b B.length = 8 := by unfold chkE; rw [if_pos h1, if_pos h2]
      rw [e]
      repeat' (first | (simp (disch := first | omega | assumption | (exact id (by with_unfolding_all rfl)) | ((refine all_cons _ _ (by first | assumption | exact id (by with_unfolding_all rfl)) ?_); (repeat' (first | exact List.all_nil | refine all_cons _ _ (by first | assumption | exact id (by with_unfolding_all rfl)) ?_)); done) |  exact callP_old _ _ _ _ _ | exact one_int _ _ | exact one_bool _ | exact one_string _ | exact one_slice _ _ _ | exact one_pointer _ | exact hget_push_one _ _ _ _ (by omega) | (simp only [List.length_map, List.length_set, List.length_replicate, List.length_cons, List.length_nil]; omega) | (rw [hget_push_lt _ _ _ _ (by omega)]; first | assumption | exact hget_push_one _ _ _ _ (by omega))) only [WW0, WW1, WW2, WW3, WW4, WW5, WW6, WW7, Option.map_some, args0, slotsL, opdsA, List.cons_append, List.nil_append, List.map_cons, List.map_nil, List.append_nil, Option.toList_some, Option.toList_none, Nat.reduceEqDiff, Nat.reduceLT, Nat.reduceAdd, Nat.reduceBEq, Int.reduceAdd, Int.reduceSub, Int.reduceLT, Int.reduceLE, Int.reduceEq, Int.reduceNeg, ↓reduceIte, if_true, if_false, Bool.false_eq_true, Bool.not_true, Bool.not_false, List.length_cons, List.length_nil, List.length_singleton, reduceCtorEq, Int.toNat_natCast, Nat.zero_add, Nat.add_zero, Int.add_sub_cancel, eq_self, List.drop_zero, List.drop_succ_cons, Option.some.injEq, Prod.mk.injEq, mkFnA, Bool.and_true, Bool.true_and, Bool.and_self, hc, h1]) | (refine does_goI_dec (fun _ => ?_) (fun _ => ?_)) | (refine does_goG_dec (fun _ => ?_) (fun _ => ?_)) | (refine does_goI (fun _ => ?_) (fun _ => ?_)) | (refine does_goG (fun _ => ?_) (fun _ => ?_)))
    · have e : chkE a b B.length = 0 := by unfold chkE; rw [if_pos h1, if_neg h2]
      rw [e]
      repeat' (first | (simp (disch := first | omega | assumption | (exact id (by with_unfolding_all rfl)) | ((refine all_cons _ _ (by first | assumption | exact id (by with_unfolding_all rfl)) ?_); (repeat' (first | exact List.all_nil | refine all_cons _ _ (by first | assumption | exact id (by with_unfolding_all rfl)) ?_)); done) |  exact callP_old _ _ _ _ _ | exact one_int _ _ | exact one_bool _ | exact one_string _ | exact one_slice _ _ _ | exact one_pointer _ | exact hget_push_one _ _ _ _ (by omega) | (simp only [List.length_map, List.length_set, List.length_replicate, List.length_cons, List.length_nil]; omega) | (rw [hget_push_lt _ _ _ _ (by omega)]; first | assumption | exact hget_push_one _ _ _ _ (by omega))) only [WW0, WW1, WW2, WW3, WW4, WW5, WW6, WW7, Option.map_some, args0, slotsL, opdsA, List.cons_append, List.nil_append, List.map_cons, List.map_nil, List.append_nil, Option.toList_some, Option.toList_none, Nat.reduceEqDiff, Nat.reduceLT, Nat.reduceAdd, Nat.reduceBEq, Int.reduceAdd, Int.reduceSub, Int.reduceLT, Int.reduceLE, Int.reduceEq, Int.reduceNeg, ↓reduceIte, if_true, if_false, Bool.false_eq_true, Bool.not_true, Bool.not_false, List.length_cons, List.length_nil, List.length_singleton, reduceCtorEq, Int.toNat_natCast, Nat.zero_add, Nat.add_zero, Int.add_sub_cancel, eq_self, List.drop_zero, List.drop_succ_cons, Option.some.injEq, Prod.mk.injEq, mkFnA, Bool.and_true, Bool.true_and, Bool.and_self, hc, h1]) | (refine does_goI_dec (fun _ => ?_) (fun _ => ?_)) | (refine does_goG_dec (fun _ => ?_) (fun _ => ?_)) | (refine does_goI (fun _ => ?_) (fun _ => ?_)) | (refine does_goG (fun _ => ?_) (fun _ => ?_)))
  · have e : chkE a b B.length = chkG a b B.length := by unfold chkE; rw [if_neg h1]
    rw [e]
    repeat' (first | (simp (disch := first | omega | assumption | (exact id (by with_unfolding_all rfl)) | ((refine all_cons _ _ (by first | assumption | exact id (by with_unfolding_all rfl)) ?_); (repeat' (first | exact List.all_nil | refine all_cons _ _ (by first | assumption | exact id (by with_unfolding_all rfl)) ?_)); done) |  exact callP_old _ _ _ _ _ | exact one_int _ _ | exact one_bool _ | exact one_string _ | exact one_slice _ _ _ | exact one_pointer _ | exact hget_push_one _ _ _ _ (by omega) | (simp only [List.length_map, List.length_set, List.length_replicate, List.length_cons, List.length_nil]; omega) | (rw [hget_push_lt _ _ _ _ (by omega)]; first | assumption | exact hget_push_one _ _ _ _ (by omega))) only [WW0, WW1, WW2, WW3, WW4, WW5, WW6, WW7, Option.map_some, args0, slotsL, opdsA, List.cons_append, List.nil_append, List.map_cons, List.map_nil, List.append_nil, Option.toList_some, Option.toList_none, Nat.reduceEqDiff, Nat.reduceLT, Nat.reduceAdd, Nat.reduceBEq, Int.reduceAdd, Int.reduceSub, Int.reduceLT, Int.reduceLE, Int.reduceEq, Int.reduceNeg, ↓reduceIte, if_true, if_false, Bool.false_eq_true, Bool.not_true, Bool.not_false, List.length_cons, List.length_nil, List.length_singleton, reduceCtorEq, Int.toNat_natCast, Nat.zero_add, Nat.add_zero, Int.add_sub_cancel, eq_self, List.drop_zero, List.drop_succ_cons, Option.some.injEq, Prod.mk.injEq, mkFnA, Bool.and_true, Bool.true_and, Bool.and_self, hc, h1]) | (refine does_goI_dec (fun _ => ?_) (fun _ => ?_)) | (refine does_goG_dec (fun _ => ?_) (fun _ => ?_)) | (refine does_goI (fun _ => ?_) (fun _ => ?_)) | (refine does_goG (fun _ => ?_) (fun _ => ?_)))
theorem great9_p (t : GI w h nx vB B) (a b : Int) :
    (EN w (n + 1)).pcall 9 [.agg [.int .i64 a, .int .i64 b, vB].toArray] ⟨h, nx, p⟩ = some (.bool (decide (4200 < B.length)), []) := by
  refine pcall_eq rfl rfl (Nat.le_of_ble_eq_true rfl) ?_
  have t' := t.push [⟨[.int .i64 a, .int .i64 b, vB], 1, false, 24⟩] (nx' := nx + 1) (by omega)
  have hlb := t.lb
  by_cases h1 : 4200 < B.length
  · rw [decide_yes h1]
    repeat' (first | (simp (disch := first | omega | assumption | (exact id (by with_unfolding_all rfl)) | ((refine all_cons _ _ (by first | assumption | exact id (by with_unfolding_all rfl)) ?_); (repeat' (first | exact List.all_nil | refine all_cons _ _ (by first | assumption | exact id (by with_unfolding_all rfl)) ?_)); done) |  exact callP_old _ _ _ _ _ | exact one_int _ _ | exact one_bool _ | exact one_string _ | exact one_slice _ _ _ | exact one_pointer _ | exact hget_push_one _ _ _ _ (by omega) | (simp only [List.length_map, List.length_set, List.length_replicate, List.length_cons, List.length_nil]; omega) | (rw [hget_push_lt _ _ _ _ (by omega)]; first | assumption | exact hget_push_one _ _ _ _ (by omega))) only [WW0, WW1, WW2, WW3, WW4, WW5, WW6, WW7, Option.map_some, args0, slotsL, opdsA, List.cons_append, List.nil_append, List.map_cons, List.map_nil, List.append_nil, Option.toList_some, Option.toList_none, Nat.reduceEqDiff, Nat.reduceLT, Nat.reduceAdd, Nat.reduceBEq, Int.reduceAdd, Int.reduceSub, Int.reduceLT, Int.reduceLE, Int.reduceEq, Int.reduceNeg, ↓reduceIte, if_true, if_false, Bool.false_eq_true, Bool.not_true, Bool.not_false, List.length_cons, List.length_nil, List.length_singleton, reduceCtorEq, Int.toNat_natCast, Nat.zero_add, Nat.add_zero, Int.add_sub_cancel, eq_self, List.drop_zero, List.drop_succ_cons, Option.some.injEq, Prod.mk.injEq, mkFnA, Bool.and_true, Bool.true_and, Bool.and_self, t'.v.len]) | (refine does_goI_dec (fun _ => ?_) (fun _ => ?_)) | (refine does_goG_dec (fun _ => ?_) (fun _ => ?_)) | (refine does_goI (fun _ => ?_) (fun _ => ?_)) | (refine does_goG (fun _ => ?_) (fun _ => ?_)))
  · rw [decide_no h1]
    repeat' (first | (simp (disch := first | omega | assumption | (exact id (by with_unfolding_all rfl)) | ((refine all_cons _ _ (by first | assumption | exact id (by with_unfolding_all rfl)) ?_); (repeat' (first | exact List.all_nil | refine all_cons _ _ (by first | assumption | exact id (by with_unfolding_all rfl)) ?_)); done) |  exact callP_old _ _ _ _ _ | exact one_int _ _ | exact one_bool _ | exact one_string _ | exact one_slice _ _ _ | exact one_pointer _ | exact hget_push_one _ _ _ _ (by omega) | (simp only [List.length_map, List.length_set, List.length_replicate, List.length_cons, List.length_nil]; omega) | (rw [hget_push_lt _ _ _ _ (by omega)]; first | assumption | exact hget_push_one _ _ _ _ (by omega))) only [WW0, WW1, WW2, WW3, WW4, WW5, WW6, WW7, Option.map_some, args0, slotsL, opdsA, List.cons_append, List.nil_append, List.map_cons, List.map_nil, List.append_nil, Option.toList_some, Option.toList_none, Nat.reduceEqDiff, Nat.reduceLT, Nat.reduceAdd, Nat.reduceBEq, Int.reduceAdd, Int.reduceSub, Int.reduceLT, Int.reduceLE, Int.reduceEq, Int.reduceNeg, ↓reduceIte, if_true, if_false, Bool.false_eq_true, Bool.not_true, Bool.not_false, List.length_cons, List.length_nil, List.length_singleton, reduceCtorEq, Int.toNat_natCast, Nat.zero_add, Nat.add_zero, Int.add_sub_cancel, eq_self, List.drop_zero, List.drop_succ_cons, Option.some.injEq, Prod.mk.injEq, mkFnA, Bool.and_true, Bool.true_and, Bool.and_self, t'.v.len]) | (refine does_goI_dec (fun _ => ?_) (fun _ => ?_)) | (refine does_goG_dec (fun _ => ?_) (fun _ => ?_)) | (refine does_goI (fun _ => ?_) (fun _ => ?_)) | (refine does_goG (fun _ => ?_) (fun _ => ?_)))
theorem fit_p (t : GI w h nx vB B) (a b : Int) (ha : -9223372036854775808 ≤ a ∧ a ≤ 9223372036854775807) (hb : -9223372036854775808 ≤ b ∧ b ≤ 9223372036854775807) :
    (EN w (n + 3)).pcall 20 [.agg [.int .i64 a, .int .i64 b, vB].toArray] ⟨h, nx, p⟩ = some (.bool (fitS a b B.length), []) := by
  refine pcall_eq rfl rfl (Nat.le_of_ble_eq_true rfl) ?_
  have t' := t.push [⟨[.int .i64 a, .int .i64 b, vB], 1, false, 24⟩] (nx' := nx + 1) (by omega)
  have hg := great9_p w (n + 1) (p := nx) t' a b
  have hc := rcheck_p w n (p := nx) t' a b ha hb
  by_cases h1 : 4200 < B.length
  · rw [decide_yes h1] at hg
    have e : fitS a b B.length = false := decide_no (by omega)
    rw [e]
    repeat' (first | (simp (disch := first | omega | assumption | (exact id (by with_unfolding_all rfl)) | ((refine all_cons _ _ (by first | assumption | exact id (by with_unfolding_all rfl)) ?_); (repeat' (first | exact List.all_nil | refine all_cons _ _ (by first | assumption | exact id (by with_unfolding_all rfl)) ?_)); done) |  exact callP_old _ _ _ _ _ | exact one_int _ _ | exact one_bool _ | exact one_string _ | exact one_slice _ _ _ | exact one_pointer _ | exact hget_push_one _ _ _ _ (by omega) | (simp only [List.length_map, List.length_set, List.length_replicate, List.length_cons, List.length_nil]; omega) | (rw [hget_push_lt _ _ _ _ (by omega)]; first | assumption | exact hget_push_one _ _ _ _ (by omega))) only [WW0, WW1, WW2, WW3, WW4, WW5, WW6, WW7, Option.map_some, args0, slotsL, opdsA, List.cons_append, List.nil_append, List.map_cons, List.map_nil, List.append_nil, Option.toList_some, Option.toList_none, Nat.reduceEqDiff, Nat.reduceLT, Nat.reduceAdd, Nat.reduceBEq, Int.reduceAdd, Int.reduceSub, Int.reduceLT, Int.reduceLE, Int.reduceEq, Int.reduceNeg, ↓reduceIte, if_true, if_false, Bool.false_eq_true, Bool.not_true, Bool.not_false, List.length_cons, List.length_nil, List.length_singleton, reduceCtorEq, Int.toNat_natCast, Nat.zero_add, Nat.add_zero, Int.add_sub_cancel, eq_self, List.drop_zero, List.drop_succ_cons, Option.some.injEq, Prod.mk.injEq, mkFnA, Bool.and_true, Bool.true_and, Bool.and_self, hg]) | (refine does_goI_dec (fun _ => ?_) (fun _ => ?_)) | (refine does_goG_dec (fun _ => ?_) (fun _ => ?_)) | (refine does_goI (fun _ => ?_) (fun _ => ?_)) | (refine does_goG (fun _ => ?_) (fun _ => ?_)))
  · rw [decide_no h1] at hg
    by_cases h2 : chkE a b B.length = 0
    · have e : fitS a b B.length = true := decide_yes ⟨by omega, h2⟩
      rw [e]
      repeat' (first | (simp (disch := first | omega | assumption | (exact id (by with_unfolding_all rfl)) | ((refine all_cons _ _ (by first | assumption | exact id (by with_unfolding_all rfl)) ?_); (repeat' (first | exact List.all_nil | refine all_cons _ _ (by first | assumption | exact id (by with_unfolding_all rfl)) ?_)); done) |  exact callP_old _ _ _ _ _ | exact one_int _ _ | exact one_bool _ | exact one_string _ | exact one_slice _ _ _ | exact one_pointer _ | exact hget_push_one _ _ _ _ (by omega) | (simp only [List.length_map, List.length_set, List.length_replicate, List.length_cons, List.length_nil]; omega) | (rw [hget_push_lt _ _ _ _ (by omega)]; first | assumption | exact hget_push_one _ _ _ _ (by omega))) only [WW0, WW1, WW2, WW3, WW4, WW5, WW6, WW7, Option.map_some, args0, slotsL, opdsA, List.cons_append, List.nil_append, List.map_cons, List.map_nil, List.append_nil, Option.toList_some, Option.toList_none, Nat.reduceEqDiff, Nat.reduceLT, Nat.reduceAdd, Nat.reduceBEq, Int.reduceAdd, Int.reduceSub, Int.reduceLT, Int.reduceLE, Int.reduceEq, Int.reduceNeg, ↓reduceIte, if_true, if_false, Bool.false_eq_true, Bool.not_true, Bool.not_false, List.length_cons, List.length_nil, List.length_singleton, reduceCtorEq, Int.toNat_natCast, Nat.zero_add, Nat.add_zero, Int.add_sub_cancel, eq_self, List.drop_zero, List.drop_succ_cons, Option.some.injEq, Prod.mk.injEq, mkFnA, Bool.and_true, Bool.true_and, Bool.and_self, hg, hc, h2]) | (refine does_goI_dec (fun _ => ?_) (fun _ => ?_)) | (refine does_goG_dec (fun _ => ?_) (fun _ => ?_)) | (refine does_goI (fun _ => ?_) (fun _ => ?_)) | (refine does_goG (fun _ => ?_) (fun _ => ?_)))
    · have e : fitS a b B.length = false := decide_no (by omega)
      rw [e]
      repeat' (first | (simp (disch := first | omega | assumption | (exact id (by with_unfolding_all rfl)) | ((refine all_cons _ _ (by first | assumption | exact id (by with_unfolding_all rfl)) ?_); (repeat' (first | exact List.all_nil | refine all_cons _ _ (by first | assumption | exact id (by with_unfolding_all rfl)) ?_)); done) |  exact callP_old _ _ _ _ _ | exact one_int _ _ | exact one_bool _ | exact one_string _ | exact one_slice _ _ _ | exact one_pointer _ | exact hget_push_one _ _ _ _ (by omega) | (simp only [List.length_map, List.length_set, List.length_replicate, List.length_cons, List.length_nil]; omega) | (rw [hget_push_lt _ _ _ _ (by omega)]; first | assumption | exact hget_push_one _ _ _ _ (by omega))) only [WW0, WW1, WW2, WW3, WW4, WW5, WW6, WW7, Option.map_some, args0, slotsL, opdsA, List.cons_append, List.nil_append, List.map_cons, List.map_nil, List.append_nil, Option.toList_some, Option.toList_none, Nat.reduceEqDiff, Nat.reduceLT, Nat.reduceAdd, Nat.reduceBEq, Int.reduceAdd, Int.reduceSub, Int.reduceLT, Int.reduceLE, Int.reduceEq, Int.reduceNeg, ↓reduceIte, if_true, if_false, Bool.false_eq_true, Bool.not_true, Bool.not_false, List.length_cons, List.length_nil, List.length_singleton, reduceCtorEq, Int.toNat_natCast, Nat.zero_add, Nat.add_zero, Int.add_sub_cancel, eq_self, List.drop_zero, List.drop_succ_cons, Option.some.injEq, Prod.mk.injEq, mkFnA, Bool.and_true, Bool.true_and, Bool.and_self, hg, hc, h2]) | (refine does_goI_dec (fun _ => ?_) (fun _ => ?_)) | (refine does_goG_dec (fun _ => ?_) (fun _ => ?_)) | (refine does_goI (fun _ => ?_) (fun _ => ?_)) | (refine does_goG (fun _ => ?_) (fun _ => ?_)))
theorem fit_out {a b : Int} {L : Nat} (h : fitS a b L = true) : chkE a b L = 0 ∧ 1 ≤ a ∧ a ≤ 40 ∧ 1 ≤ b ∧ b ≤ 64 ∧ (L : Int) = a * b := by
  obtain ⟨h1, h2⟩ := of_decide_eq_true h
  have h3 := h2
  unfold chkE at h3
  split at h3
  · rename_i h4
    split at h3
    · omega
    · unfold chkG at h4
      split at h4
      · omega
      · split at h4
        · omega
        · split at h4
          · rename_i h5
            exact ⟨h2, by omega, by omega, by omega, by omega, h5⟩
          · omega
  · exact absurd h3 ‹_›
/-! ### the closures of Encode -/
theorem enc1_p {i : Nat} {v : Value} {l : List Bool} {ty : TypeId} (hg : hget h i = some ⟨[v], 1, false, ty⟩) (hr : Rd (oldOf w) h Value.bool v l) (k : Nat) (hk : k < l.length) :
    (EN w (n + 1)).pcall 39 [.int .i64 k, .pointer (some ⟨i, 0, some 0⟩)] ⟨h, nx, p⟩ = some (.bool l[k]!, []) := by
  refine pcall_eq rfl rfl (Nat.le_of_ble_eq_true rfl) ?_
  repeat' (first | (simp (disch := first | omega | assumption | (exact id (by with_unfolding_all rfl)) | ((refine all_cons _ _ (by first | assumption | exact id (by with_unfolding_all rfl)) ?_); (repeat' (first | exact List.all_nil | refine all_cons _ _ (by first | assumption | exact id (by with_unfolding_all rfl)) ?_)); done) |  exact callP_old _ _ _ _ _ | exact one_int _ _ | exact one_bool _ | exact one_string _ | exact one_slice _ _ _ | exact one_pointer _ | exact hget_push_one _ _ _ _ (by omega) | (simp only [List.length_map, List.length_set, List.length_replicate, List.length_cons, List.length_nil]; omega) | (rw [hget_push_lt _ _ _ _ (by omega)]; first | assumption | exact hget_push_one _ _ _ _ (by omega))) only [WW0, WW1, WW2, WW3, WW4, WW5, WW6, WW7, Option.map_some, args0, slotsL, opdsA, List.cons_append, List.nil_append, List.map_cons, List.map_nil, List.append_nil, Option.toList_some, Option.toList_none, Nat.reduceEqDiff, Nat.reduceLT, Nat.reduceAdd, Nat.reduceBEq, Int.reduceAdd, Int.reduceSub, Int.reduceLT, Int.reduceLE, Int.reduceEq, Int.reduceNeg, ↓reduceIte, if_true, if_false, Bool.false_eq_true, Bool.not_true, Bool.not_false, List.length_cons, List.length_nil, List.length_singleton, reduceCtorEq, Int.toNat_natCast, Nat.zero_add, Nat.add_zero, Int.add_sub_cancel, eq_self, List.drop_zero, List.drop_succ_cons, Option.some.injEq, Prod.mk.injEq, mkFnA, Bool.and_true, Bool.true_and, Bool.and_self, hg, hr.idx, hr.load]) | (refine does_goI_dec (fun _ => ?_) (fun _ => ?_)) | (refine does_goG_dec (fun _ => ?_) (fun _ => ?_)) | (refine does_goI (fun _ => ?_) (fun _ => ?_)) | (refine does_goG (fun _ => ?_) (fun _ => ?_)))
theorem enc2_p {i j : Nat} {vC : Value} {q : Int} {rs : List Value} {V : List (List Bool)} {ty uy : TypeId} (hg : hget h i = some ⟨[.int .i64 q, vC], 1, false, ty⟩) (x : Nat) (hj : hget h j = some ⟨[.int .i64 x], 1, false, uy⟩) (ht : CB w h nx vC rs V) (k : Nat) (hk : k < V.length) (hx : x < V[k]!.length) :
    (EN w (n + 1)).pcall 40 [.int .i64 k, .pointer (some ⟨i, 0, some 0⟩), .pointer (some ⟨j, 0, some 0⟩)] ⟨h, nx, p⟩ = some (.bool V[k]![x]!, []) := by
  refine pcall_eq rfl rfl (Nat.le_of_ble_eq_true rfl) ?_
  have hlen := ht.len
  have hr := ht.r k hk
  repeat' (first | (simp (disch := first | omega | assumption | (exact id (by with_unfolding_all rfl)) | ((refine all_cons _ _ (by first | assumption | exact id (by with_unfolding_all rfl)) ?_); (repeat' (first | exact List.all_nil | refine all_cons _ _ (by first | assumption | exact id (by with_unfolding_all rfl)) ?_)); done) |  exact callP_old _ _ _ _ _ | exact one_int _ _ | exact one_bool _ | exact one_string _ | exact one_slice _ _ _ | exact one_pointer _ | exact hget_push_one _ _ _ _ (by omega) | (simp only [List.length_map, List.length_set, List.length_replicate, List.length_cons, List.length_nil]; omega) | (rw [hget_push_lt _ _ _ _ (by omega)]; first | assumption | exact hget_push_one _ _ _ _ (by omega))) only [WW0, WW1, WW2, WW3, WW4, WW5, WW6, WW7, Option.map_some, args0, slotsL, opdsA, List.cons_append, List.nil_append, List.map_cons, List.map_nil, List.append_nil, Option.toList_some, Option.toList_none, Nat.reduceEqDiff, Nat.reduceLT, Nat.reduceAdd, Nat.reduceBEq, Int.reduceAdd, Int.reduceSub, Int.reduceLT, Int.reduceLE, Int.reduceEq, Int.reduceNeg, ↓reduceIte, if_true, if_false, Bool.false_eq_true, Bool.not_true, Bool.not_false, List.length_cons, List.length_nil, List.length_singleton, reduceCtorEq, Int.toNat_natCast, Nat.zero_add, Nat.add_zero, Int.add_sub_cancel, eq_self, List.drop_zero, List.drop_succ_cons, Option.some.injEq, Prod.mk.injEq, mkFnA, Bool.and_true, Bool.true_and, Bool.and_self, hg, hj, ht.v.idx, ht.v.load, hr.idx, hr.load]) | (refine does_goI_dec (fun _ => ?_) (fun _ => ?_)) | (refine does_goG_dec (fun _ => ?_) (fun _ => ?_)) | (refine does_goI (fun _ => ?_) (fun _ => ?_)) | (refine does_goG (fun _ => ?_) (fun _ => ?_)))
end
end Go.Proofs.YtepdkmdcainddaaDoor
-- lib2
namespace Go.Proofs.YtepdkmdcainddaaDoor
open Go Go.Itp
set_option linter.unusedSimpArgs false
set_option linter.unusedVariables false
set_option maxRecDepth 100000
set_option maxHeartbeats 1000000
attribute [local irreducible] Does

/-- a part of a slice, both ends named -/
theorem _root_.Go.Itp.Rd.slcMid {α : Type} {old : Nat → Nat → Option Value} {h : Heap} {f : α → Value} {v : Value} {l : List α} (r : Rd old h f v l) (k j : IntKind) (x y : Nat) (hxy : x < y) (hy : y ≤ l.length) :
    ∃ v', slcA' 1 (some (.int k x)) (some (.int j y)) none v = some v' ∧ Rd old h f v' ((l.take y).drop x) ∧ bidN v' = bidN v := by
  rcases r.is with ⟨a, c, rfl, h1, h2⟩ | ⟨rfl, _⟩
  case inr => simp at hy; omega
  have hlen : ((l.take y).drop x).length = y - x := by rw [List.length_drop, List.length_take, Nat.min_eq_left hy]
  rcases h2 with ⟨rfl, rfl⟩ | ⟨ad, rfl, hb, h2⟩
  · simp at hy; omega
  have e0 : slcA' 1 (some (.int k x)) (some (.int j y)) none (.slice (some ad) l.length c) = slcA 1 (some ad) l.length c (some (.int k x)) (some (.int j y)) none := rfl
  have e1 : bndNat (some (.int j y)) l.length (knownCap c) = some y := by
    have : (y : Int) ≤ ((knownCap c : Nat) : Int) := by generalize knownCap c = K at h1 ⊢; omega
    simp [bndNat, this]
  have e2 : bndNat (some (.int k x)) 0 y = some x := by simp [bndNat]; omega
  have hk : ∃ c', slcR 1 (some ad) c y x = some (.slice (some (aadd ad x)) (y - x) c') ∧ y - x ≤ knownCap c' := by
    unfold knownCap at h1
    unfold slcR
    by_cases hc : Nat.blt c big = true
    · rw [if_pos hc] at h1 ⊢
      rw [if_neg (by omega)]
      refine ⟨_, by rw [Nat.mul_one]; rfl, ?_⟩
      rw [Nat.blt_eq] at hc
      unfold knownCap
      rw [if_pos (by rw [Nat.blt_eq]; omega)]
      omega
    · rw [if_neg hc] at h1 ⊢
      rw [if_pos (by rw [Nat.blt_eq]; omega)]
      refine ⟨_, by rw [Nat.mul_one]; rfl, ?_⟩
      rw [Nat.blt_eq] at hc
      unfold knownCap
      rw [if_neg (by rw [Nat.blt_eq]; omega)]
      omega
  obtain ⟨c', hc1, hc2⟩ := hk
  refine ⟨.slice (some (aadd ad x)) (y - x) c', by rw [e0, slcA_nomax, e1, Option.bind_some, e2, Option.bind_some, hc1], ⟨Or.inl ⟨_, c', by rw [hlen], by rw [hlen]; exact hc2, Or.inr ⟨_, rfl, ?_, fun i hi => ?_⟩⟩⟩, ?_⟩
  · intro i hi
    refine hb i ?_
    obtain ⟨b, o, s⟩ := ad
    cases s <;> exact hi
  · rw [hlen] at hi
    have e3 : aadd (aadd ad x) i = aadd ad (x + i) := by simp [aadd, Nat.add_assoc]
    rw [e3, h2 (x + i) (by omega)]
    simp
  · obtain ⟨b, o, s⟩ := ad
    cases s <;> rfl
theorem lput_front : ∀ (l cs : List Value), l.length ≤ cs.length → lput cs 0 l = some (l ++ cs.drop l.length)
  | [], cs, _ => by cases cs <;> rfl
  | x :: l, [], h => by simp at h
  | x :: l, c :: cs, h => by
    have := lput_front l cs (by simpa using h)
    simp [lput, this]
/-- a list copied to the front of a longer row -/
theorem copy_front {E : Env} {old : Nat → Nat → Option Value} {h : Heap} {nx p i c m : Nat} {cs : List Value} {g : Bool} {t : TypeId} {α : Type} {f : α → Value} {x : Value} {l : List α} (he : E.old = old) (hr : Rd old h f x l) (hg : hget h i = some ⟨cs, 1, g, t⟩) (hc : cs.length = m) (hl : l.length ≤ m) (hp : p ≤ i) (hf : ∀ x, oneCell (f x) = true) :
    copyA E ⟨h, nx, p⟩ 1 (.slice (some ⟨i, 0, some 0⟩) m c) x = some (.int .i64 l.length, ⟨hset h i ⟨l.map f ++ cs.drop l.length, 1, g, t⟩, nx, p⟩) := by
  have e1 : srcCells E h 1 l.length x = some (l.map f) := by
    have := hr.src l.length (Nat.le_refl _)
    rw [List.take_length] at this
    rw [← this]
    exact srcCells_old _ _ he _ _ _ _
  have e2 : Nat.ble p i = true := Nat.ble_eq_true_of_le hp
  have e3 : (l.map f).all oneCell = true := by simp [hf]
  have e4 : lput cs 0 (l.map f) = some (l.map f ++ cs.drop l.length) := by
    have := lput_front (l.map f) cs (by simp [hc, hl])
    rwa [List.length_map] at this
  have e5 : Nat.min l.length m = l.length := Nat.min_eq_left hl
  simp only [copyA, hr.lenA, Option.bind_some, e5, e1, astore, e2, if_true, hg, e3, e4, Option.map_some]
end Go.Proofs.YtepdkmdcainddaaDoor
-- lib2
namespace Go.Proofs.YtepdkmdcainddaaDoor
open Go Go.Itp
set_option linter.unusedSimpArgs false
set_option linter.unusedVariables false
set_option maxRecDepth 100000
set_option maxHeartbeats 1000000
attribute [local irreducible] Does

def bitsRow (B : List Bool) (Q k : Nat) : List Bool := (List.range Q).map fun x => B[k * Q + x]!
def fullRow (B : List Bool) (Q k : Nat) : List Bool := bitsRow B Q k ++ [oddTo (fun x => (bitsRow B Q k ++ [false])[x]!) Q]
theorem bitsRow_len (B : List Bool) (Q k : Nat) : (bitsRow B Q k).length = Q := by simp [bitsRow]
theorem part_row (B : List Bool) (Q k : Nat) (h : (k + 1) * Q ≤ B.length) : (B.take ((k + 1) * Q)).drop (k * Q) = bitsRow B Q k := by
  have hm : (k + 1) * Q = k * Q + Q := Nat.succ_mul k Q
  refine List.ext_getElem ?_ fun i h1 h2 => ?_
  · rw [List.length_drop, List.length_take, bitsRow_len, Nat.min_eq_left h]; omega
  · rw [bitsRow_len] at h2
    simp only [bitsRow, List.getElem_drop, List.getElem_take, List.getElem_map, List.getElem_range]
    rw [getElem!_pos B (k * Q + i) (by omega)]
theorem fullRow_len (B : List Bool) (Q k : Nat) : (fullRow B Q k).length = Q + 1 := by simp [fullRow, bitsRow_len]
theorem front_cells (B : List Bool) (Q k : Nat) : (bitsRow B Q k).map Value.bool ++ ((List.replicate (Q + 1) false).map Value.bool).drop (bitsRow B Q k).length = (bitsRow B Q k ++ [false]).map Value.bool := by
  rw [bitsRow_len, ← List.map_drop, List.drop_replicate, show Q + 1 - Q = 1 by omega, List.map_append]
  rfl
theorem set_full (B : List Bool) (Q k : Nat) : (bitsRow B Q k ++ [false]).set Q (oddTo (fun x => (bitsRow B Q k ++ [false])[x]!) Q) = fullRow B Q k := by
  rw [List.set_append_right _ _ (by rw [bitsRow_len]; exact Nat.le_refl _), bitsRow_len, Nat.sub_self]
  rfl
/-- the chain under way: its rows, each in a block of its own -/
structure EI (w : World) (h : Heap) (nx p b : Nat) (q : Int) (u : Value) (ss : List Value) (V : List (List Bool)) : Prop where
  cell : hget h b = some ⟨[.int .i64 q, u], 1, false, 34⟩
  own : Own (b + 1) ⟨h, nx, p⟩ 22 1 u V.length ss
  len : ss.length = V.length
  row : ∀ j, j < V.length → ∃ (i c : Nat) (g : Bool), ss[j]! = .slice (some ⟨i, 0, some 0⟩) V[j]!.length c ∧ b + 1 ≤ i ∧ i < nx ∧ V[j]!.length ≤ knownCap c ∧ hget h i = some ⟨V[j]!.map Value.bool, 1, g, 4⟩ ∧ bidN u ≠ i + 1
  sep : ∀ j j', j < V.length → j' < V.length → j ≠ j' → bidN ss[j]! ≠ bidN ss[j']!
theorem EI.hx {w : World} {h h' : Heap} {nx nx' p b : Nat} {q : Int} {u : Value} {ss : List Value} {V : List (List Bool)} (t : EI w h nx p b q u ss V) (hb : b + 1 ≤ nx) (hx : HX nx h h') (hn : nx ≤ nx') : EI w h' nx' p b q u ss V := by
  have hbd := t.own.bid
  simp only at hbd
  refine ⟨by rw [hx _ (by omega)]; exact t.cell, t.own.to hn rfl fun i hi => hx i (by omega), t.len, fun j hj => ?_, t.sep⟩
  obtain ⟨i, c, g, r1, r2, r3, r4, r5, r6⟩ := t.row j hj
  exact ⟨i, c, g, r1, r2, by omega, r4, by rw [hx i r3]; exact r5, r6⟩
theorem EI.cb {w : World} {h : Heap} {nx p b : Nat} {q : Int} {u : Value} {ss : List Value} {V : List (List Bool)} (t : EI w h nx p b q u ss V) (hV : V.length ≤ 1000000) (hr : ∀ k, k < V.length → V[k]!.length ≤ 1000000) : CB w h nx u ss V := by
  have hbd := t.own.bid
  simp only at hbd
  refine ⟨t.own.rdV (old := oldOf w) t.len.symm, t.len, fun j hj => ?_, hbd, fun j hj => ?_, hV, hr⟩
  · obtain ⟨i, c, g, r1, r2, r3, r4, r5, r6⟩ := t.row j hj
    rw [r1]; exact Rd.newb r5 rfl rfl r4
  · obtain ⟨i, c, g, r1, r2, r3, r4, r5, r6⟩ := t.row j hj
    rw [r1]; simp only [bidN, bidA]; omega
theorem EI.nc {w : World} {h : Heap} {nx p b : Nat} {q : Int} {u : Value} {ss : List Value} {V : List (List Bool)} (t : EI w h nx p b q u ss V) (hV : V.length ≤ 1000000) (hr : ∀ k, k < V.length → V[k]!.length ≤ 1000000) : NC w h (b + 1) nx u ss V := by
  have hb2 := t.own.bid2
  refine ⟨t.cb hV hr, fun j hj => ?_, t.sep, by omega⟩
  obtain ⟨i, c, g, r1, r2, r3, r4, r5, r6⟩ := t.row j hj
  exact ⟨i, c, g, r1, r2, r5, r6⟩
def encRows (B : List Bool) (Q K : Nat) : List (List Bool) := (List.range K).map (fullRow B Q)
def colV (B : List Bool) (Q K x : Nat) : Bool := oddTo (fun y => (encRows B Q K)[y]![x]!) K
def lastTo (B : List Bool) (Q K x : Nat) : List Bool := (List.range x).map (colV B Q K) ++ List.replicate (Q + 1 - x) false
theorem lastTo_len (B : List Bool) (Q K x : Nat) (h : x ≤ Q + 1) : (lastTo B Q K x).length = Q + 1 := by simp [lastTo]; omega
theorem lastTo_set (B : List Bool) (Q K x : Nat) (h : x < Q + 1) : (lastTo B Q K x).set x (colV B Q K x) = lastTo B Q K (x + 1) := by
  unfold lastTo
  rw [List.set_append_right _ _ (by simp), List.length_map, List.length_range, Nat.sub_self, show Q + 1 - x = (Q + 1 - (x + 1)) + 1 by omega, List.replicate_succ, List.range_succ, List.map_append]
  simp
def encV (B : List Bool) (Q K : Nat) : List (List Bool) := encRows B Q K ++ [lastTo B Q K (Q + 1)]
theorem encRows_len (B : List Bool) (Q K : Nat) : (encRows B Q K).length = K := by simp [encRows]
theorem encRows_row (B : List Bool) (Q K k : Nat) (hk : k < K) : ((encRows B Q K)[k]!).length = Q + 1 := by
  rw [getElem!_pos _ k (by rw [encRows_len]; exact hk)]
  simp [encRows, fullRow_len]
theorem encV_len (B : List Bool) (Q K : Nat) : (encV B Q K).length = K + 1 := by simp [encV, encRows_len]
theorem encV_row (B : List Bool) (Q K k : Nat) (hk : k < K + 1) : ((encV B Q K)[k]!).length = Q + 1 := by
  unfold encV
  by_cases e : k = K
  · subst e
    rw [get_app_r _ _ _ (by rw [encRows_len]; exact Nat.le_refl _) (by rw [encRows_len]; simp), encRows_len, Nat.sub_self]
    exact lastTo_len B Q k (Q + 1) (Nat.le_refl _)
  · rw [get_app_l _ _ _ (by rw [encRows_len]; omega)]
    exact encRows_row B Q K k (by omega)
/-- one row more -/
theorem EI.grow {w : World} {h2 H4 : Heap} {n2 n4 p b i c : Nat} {q : Int} {u : Value} {ss : List Value} {V : List (List Bool)} {row : List Bool} {g : Bool} (hE : EI w h2 n2 p b q u ss V) (hb : b + 1 ≤ n2) (hpb : p ≤ b) (hx : HX n2 h2 H4) (hn : n2 ≤ n4) (hi1 : n2 ≤ i) (hi2 : i < n4)
    (m : hget H4 i = some ⟨row.map Value.bool, 1, g, 4⟩) (hk : row.length ≤ knownCap c) :
    EI w (hset (hpush (delO (hpush H4 n4 [⟨[.slice (some ⟨i, 0, some 0⟩) row.length c], 1, false, 22⟩]) u) (n4 + 1) [⟨ss ++ [.slice (some ⟨i, 0, some 0⟩) row.length c], 1, true, 22⟩]) b ⟨[.int .i64 q, .slice (some ⟨n4 + 1, 0, some 0⟩) (V.length + 1) (big + (V.length + 1))], 1, false, 34⟩)
      (n4 + 1 + 1) p b q (.slice (some ⟨n4 + 1, 0, some 0⟩) (V.length + 1) (big + (V.length + 1))) (ss ++ [.slice (some ⟨i, 0, some 0⟩) row.length c]) (V ++ [row]) := by
  have hb2 := hE.own.bid2
  have hbd := hE.own.bid
  simp only at hbd
  have hsl := hE.len
  have hVl : (V ++ [row]).length = V.length + 1 := by simp
  have hlast : (ss ++ [Value.slice (some ⟨i, 0, some 0⟩) row.length c])[V.length]! = .slice (some ⟨i, 0, some 0⟩) row.length c := by rw [get_app_r _ _ _ (by omega) (by simp; omega), hsl, Nat.sub_self]; rfl
  have hlastV : (V ++ [row])[V.length]! = row := by rw [get_app_r _ _ _ (by omega) (by simp), Nat.sub_self]; rfl
  have hold : ∀ j, j < V.length → (ss ++ [Value.slice (some ⟨i, 0, some 0⟩) row.length c])[j]! = ss[j]! ∧ (V ++ [row])[j]! = V[j]! ∧ bidN ss[j]! ≤ n2 := fun j hj => by
    obtain ⟨i', c', g', r1, r2, r3, _⟩ := hE.row j hj
    exact ⟨get_app_l _ _ _ (by omega), get_app_l _ _ _ (by omega), by rw [r1]; simp only [bidN, bidA]; omega⟩
  have hbl : bidN (Value.slice (some ⟨i, 0, some 0⟩) row.length c) = i + 1 := rfl
  refine ⟨?_, ?_, by simp [hsl], ?_, ?_⟩
  · rw [hget_set_self, hget_push_lt _ _ _ _ (by omega), hget_delO _ _ _ (by omega), hget_push_lt _ _ _ _ (by omega), hx _ (by omega), hE.cell]; rfl
  · rw [hVl]
    exact (Own.grown (by simp [hsl]) (by omega) (by omega)).to (Nat.le_refl _) rfl fun j hj => by
      simp only [bidN, bidA] at hj
      exact hget_set_ne _ _ _ _ (by omega)
  · intro j hj
    rw [hVl] at hj
    by_cases e : j = V.length
    · subst e
      rw [hlast, hlastV]
      refine ⟨i, c, g, rfl, by omega, by omega, hk, ?_, by simp only [bidN, bidA]; omega⟩
      rw [hget_set_ne _ _ _ _ (by omega), hget_push_lt _ _ _ _ (by omega), hget_delO _ _ _ (by omega), hget_push_lt _ _ _ _ (by omega)]
      exact m
    · obtain ⟨e1, e2, e3⟩ := hold j (by omega)
      obtain ⟨i', c', g', r1, r2, r3, r4, r5, r6⟩ := hE.row j (by omega)
      rw [e1, e2]
      refine ⟨i', c', g', r1, r2, by omega, r4, ?_, by simp only [bidN, bidA]; omega⟩
      rw [hget_set_ne _ _ _ _ (by omega), hget_push_lt _ _ _ _ (by omega), hget_delO _ _ _ r6, hget_push_lt _ _ _ _ (by omega), hx _ (by omega)]
      exact r5
  · intro j j' hj hj' hne
    rw [hVl] at hj hj'
    by_cases e : j = V.length
    · subst e
      obtain ⟨e1, e2, e3⟩ := hold j' (by omega)
      rw [hlast, e1]; omega
    · obtain ⟨e1, e2, e3⟩ := hold j (by omega)
      by_cases e' : j' = V.length
      · subst e'
        rw [hlast, e1]; omega
      · rw [e1, (hold j' (by omega)).1]; exact hE.sep j j' (by omega) (by omega) hne
section
variable (w : World) (n : Nat) {vB : Value} {B : List Bool} {h : Heap} {nx p : Nat}
theorem encode_w (t : GI w h nx vB B) (Q K : Nat) (hfit : chkE Q K B.length = 0) (hQ : 1 ≤ Q ∧ Q ≤ 40) (hK : 1 ≤ K ∧ K ≤ 64) (hL : B.length = Q * K) (hp : p ≤ nx) :
    ∃ (u : Value) (ss : List Value) (h' : Heap) (n' : Nat), (EN w (n + 4)).wcall 13 [.agg [.int .i64 Q, .int .i64 K, vB].toArray] ⟨h, nx, p⟩ = some (.tuple [.agg [.int .i64 Q, u].toArray, .int .i64 0].toArray, ⟨h', n', p⟩) ∧ HX nx h h' ∧ nx ≤ n' ∧ NC w h' (nx + 1 + 1 + 1) n' u ss (encV B Q K) := by
  have key : ∃ v s', (EN w (n + 4)).wcall 13 [.agg [.int .i64 Q, .int .i64 K, vB].toArray] ⟨h, nx, p⟩ = some (v, s') ∧ (∃ (u : Value) (ss : List Value) (h' : Heap) (n' : Nat), v = .tuple [.agg [.int .i64 Q, u].toArray, .int .i64 0].toArray ∧ s' = ⟨h', n', p⟩ ∧ HX nx h h' ∧ nx ≤ n' ∧ NC w h' (nx + 1 + 1 + 1) n' u ss (encV B Q K)) := by
    refine wcall_ex rfl (Nat.le_of_ble_eq_true rfl) ?_
    obtain ⟨H0, hH0⟩ : ∃ H0, H0 = hpush (hpush h nx [⟨[.int .i64 Q, .int .i64 K, vB], 1, false, 24⟩]) (nx + 1) [⟨[.int .i64 0, .slice none 0 0], 1, false, 34⟩] := ⟨_, rfl⟩
    have hx0 : HX nx h H0 := by subst hH0; exact ((HX.refl _ _).push _ (Nat.le_refl _)).push _ (by omega)
    have t' := t.hx hx0 (nx' := nx + 1 + 1) (by omega)
    have g1 : hget H0 nx = some ⟨[.int .i64 Q, .int .i64 K, vB], 1, false, 24⟩ := by subst hH0; rw [hget_push_lt _ _ _ _ (by omega)]; exact hget_push_one _ _ _ _ rfl
    have hck := pcheck_p w (n + 1) (p := p) t' Q K (by omega) (by omega)
    rw [hfit] at hck
    obtain ⟨H1, hH1⟩ : ∃ H1, H1 = hset (hpush H0 (nx + 1 + 1) [⟨[.int .i64 0, .slice none 0 0], 1, false, 34⟩]) (nx + 1 + 1) ⟨[.int .i64 Q, .slice none 0 0], 1, false, 34⟩ := ⟨_, rfl⟩
    have hx1 : HX (nx + 1 + 1) H0 H1 := by subst hH1; exact ((HX.refl _ _).push _ (Nat.le_refl _)).set _ (Nat.le_refl _)
    have g2 : hget H1 nx = some ⟨[.int .i64 Q, .int .i64 K, vB], 1, false, 24⟩ := by rw [hx1 _ (by omega)]; exact g1
    have f8 : hget H1 (nx + 1 + 1) = some ⟨[.int .i64 Q, .slice none 0 0], 1, false, 34⟩ := by subst hH1; rw [hget_set_self, hget_push_one _ _ _ _ rfl]; rfl
    repeat' (first | (simp (disch := first | omega | assumption | (exact id (by with_unfolding_all rfl)) | ((refine all_cons _ _ (by first | assumption | exact id (by with_unfolding_all rfl)) ?_); (repeat' (first | exact List.all_nil | refine all_cons _ _ (by first | assumption | exact id (by with_unfolding_all rfl)) ?_)); done) |  exact callP_old _ _ _ _ _ | exact one_int _ _ | exact one_bool _ | exact one_string _ | exact one_slice _ _ _ | exact one_pointer _ | exact hget_push_one _ _ _ _ (by omega) | (simp only [List.length_map, List.length_set, List.length_replicate, List.length_cons, List.length_nil]; omega) | (rw [hget_push_lt _ _ _ _ (by omega)]; first | assumption | exact hget_push_one _ _ _ _ (by omega))) only [WW0, WW1, WW2, WW3, WW4, WW5, WW6, WW7, Option.map_some, args0, slotsL, opdsA, List.cons_append, List.nil_append, List.map_cons, List.map_nil, List.append_nil, Option.toList_some, Option.toList_none, Nat.reduceEqDiff, Nat.reduceLT, Nat.reduceAdd, Nat.reduceBEq, Int.reduceAdd, Int.reduceSub, Int.reduceLT, Int.reduceLE, Int.reduceEq, Int.reduceNeg, ↓reduceIte, if_true, if_false, Bool.false_eq_true, Bool.not_true, Bool.not_false, List.length_cons, List.length_nil, List.length_singleton, reduceCtorEq, Int.toNat_natCast, Nat.zero_add, Nat.add_zero, Int.add_sub_cancel, eq_self, List.drop_zero, List.drop_succ_cons, Option.some.injEq, Prod.mk.injEq, mkFnA, Bool.and_true, Bool.true_and, Bool.and_self, zchain, ← hH0, g1, hck]) | (refine does_goI_dec (fun _ => ?_) (fun _ => ?_)) | (refine does_goG_dec (fun _ => ?_) (fun _ => ?_)) | (refine does_goI (fun _ => ?_) (fun _ => ?_)) | (refine does_goG (fun _ => ?_) (fun _ => ?_)))
    rw [← hH1]
    refine does_while (fun m fr t => ∃ (k : Nat) (u : Value) (ss : List Value) (h2 : Heap) (n2 : Nat), m = K - k ∧ k ≤ K ∧ fr = [(1, .pointer (some ⟨nx, 0, some 0⟩)), (2, .pointer (some ⟨nx + 1, 0, some 0⟩)), (5, .pointer (some ⟨nx + 1 + 1, 0, some 0⟩)), (20, .int .i64 K), (21, .int .i64 k)] ∧ t = ⟨h2, n2, p⟩ ∧
      HX (nx + 1 + 1) H1 h2 ∧ nx + 1 + 1 + 1 ≤ n2 ∧ EI w h2 n2 p (nx + 1 + 1) Q u ss ((List.range k).map (fullRow B Q))) (m := K) ?_ ?_ ?_
    · exact ⟨0, _, _, _, _, by omega, by omega, rfl, rfl, HX.refl _ _, Nat.le_refl _, ⟨f8, Own.nil, rfl, fun j hj => by simp at hj, fun j j' hj => by simp at hj⟩⟩
    · simp (disch := first | omega | assumption | (exact id (by with_unfolding_all rfl)) | ((refine all_cons _ _ (by first | assumption | exact id (by with_unfolding_all rfl)) ?_); (repeat' (first | exact List.all_nil | refine all_cons _ _ (by first | assumption | exact id (by with_unfolding_all rfl)) ?_)); done) |  exact callP_old _ _ _ _ _ | exact one_int _ _ | exact one_bool _ | exact one_string _ | exact one_slice _ _ _ | exact one_pointer _ | exact hget_push_one _ _ _ _ (by omega) | (simp only [List.length_map, List.length_set, List.length_replicate, List.length_cons, List.length_nil]; omega) | (rw [hget_push_lt _ _ _ _ (by omega)]; first | assumption | exact hget_push_one _ _ _ _ (by omega))) only [WW0, WW1, WW2, WW3, WW4, WW5, WW6, WW7, Option.map_some, args0, slotsL, opdsA, List.cons_append, List.nil_append, List.map_cons, List.map_nil, List.append_nil, Option.toList_some, Option.toList_none, Nat.reduceEqDiff, Nat.reduceLT, Nat.reduceAdd, Nat.reduceBEq, Int.reduceAdd, Int.reduceSub, Int.reduceLT, Int.reduceLE, Int.reduceEq, Int.reduceNeg, ↓reduceIte, if_true, if_false, Bool.false_eq_true, Bool.not_true, Bool.not_false, List.length_cons, List.length_nil, List.length_singleton, reduceCtorEq, Int.toNat_natCast, Nat.zero_add, Nat.add_zero, Int.add_sub_cancel, eq_self, List.drop_zero, List.drop_succ_cons, Option.some.injEq, Prod.mk.injEq, mkFnA, Bool.and_true, Bool.true_and, Bool.and_self]
      unfold many; omega
    · rintro m fr tt ⟨k, u, ss, h2, n2, rfl, hk, rfl, rfl, hx2, hn2, hE⟩
      have hx02 : HX (nx + 1 + 1) H0 h2 := hx1.trans hx2 (Nat.le_refl _)
      have t2 := t'.hx hx02 (nx' := n2) (by omega)
      have b2 : hget h2 nx = some ⟨[.int .i64 Q, .int .i64 K, vB], 1, false, 24⟩ := by rw [hx2 _ (by omega)]; exact g2
      have hg8 := hE.cell
      have ho := hE.own
      have hb2 := ho.bid2
      have hbd := ho.bid
      simp only at hbd
      by_cases hlt : k < K
      · have hkQ : k * Q + Q ≤ B.length := by
          rw [hL, Nat.mul_comm Q K, ← Nat.succ_mul]; exact Nat.mul_le_mul_right Q hlt
        obtain ⟨P, hP⟩ : ∃ P, P = k * Q := ⟨_, rfl⟩
        have hP1 : (k : Int) * (Q : Int) = (P : Int) := by rw [hP]; simp
        have hP2 : ((k : Int) + 1) * (Q : Int) = ((P + Q : Nat) : Int) := by rw [hP, Int.add_mul]; simp
        have hPB : P + Q ≤ B.length := by omega
        have hB1 : B.length ≤ 2560 := by rw [hL]; exact Nat.mul_le_mul hQ.2 hK.2
        obtain ⟨vs, hs1, hs2, hs3⟩ := t2.v.slcMid .i64 .i64 P (P + Q) (by omega) hPB
        have hQn : ((Q : Int) + 1).toNat = Q + 1 := by omega
        have hrep : ∀ v : Value, (List.replicate 1 (Value.slice none 0 0)).set 0 v = [v] := fun _ => rfl
        obtain ⟨rv, hrv⟩ : ∃ rv, rv = Value.slice (some ⟨n2, 0, some 0⟩) (Q + 1) (Q + 1) := ⟨_, rfl⟩
        obtain ⟨H2, hH2⟩ : ∃ H2, H2 = hset (hpush (hpush h2 n2 [⟨(List.replicate (Q + 1) false).map Value.bool, 1, false, 4⟩]) (n2 + 1) [⟨List.replicate 1 (.slice none 0 0), 1, false, 22⟩]) (n2 + 1) ⟨[.slice (some ⟨n2, 0, some 0⟩) (Q + 1) (Q + 1)], 1, false, 22⟩ := ⟨_, rfl⟩
        have hx3 : HX n2 h2 H2 := by subst hH2; exact (((HX.refl _ _).push _ (Nat.le_refl _)).push _ (by omega)).set _ (by omega)
        have m1 : hget H2 (n2 + 1) = some ⟨[.slice (some ⟨n2, 0, some 0⟩) (Q + 1) (Q + 1)], 1, false, 22⟩ := by subst hH2; rw [hget_set_self, hget_push_one _ _ _ _ rfl]; rfl
        have m2 : hget H2 n2 = some ⟨(List.replicate (Q + 1) false).map Value.bool, 1, false, 4⟩ := by subst hH2; rw [hget_set_ne _ _ _ _ (by omega), hget_push_lt _ _ _ _ (by omega)]; exact hget_push_one _ _ _ _ rfl
        have b3 : hget H2 nx = some ⟨[.int .i64 Q, .int .i64 K, vB], 1, false, 24⟩ := by rw [hx3 _ (by omega)]; exact b2
        have e8 : hget H2 (nx + 1 + 1) = some ⟨[.int .i64 Q, u], 1, false, 34⟩ := by rw [hx3 _ (by omega)]; exact hg8
        have hpr : (B.take (P + Q)).drop P = bitsRow B Q k := by rw [hP, ← Nat.succ_mul]; exact part_row B Q k (by rw [Nat.succ_mul]; exact hkQ)
        rw [hpr] at hs2
        have hs4 : Rd (oldOf w) H2 Value.bool vs (bitsRow B Q k) := hs2.hx hx3 (by rw [hs3]; exact t2.bv)
        have hbl := bitsRow_len B Q k
        obtain ⟨H3, hH3⟩ : ∃ H3, H3 = hset H2 n2 ⟨(bitsRow B Q k ++ [false]).map Value.bool, 1, false, 4⟩ := ⟨_, rfl⟩
        have hcp := fun nn => copy_front (E := EN w (n + 3)) (nx := nn) (p := p) (i := n2) (c := Q + 1) (m := Q + 1) (callP_old ..) hs4 m2 (by rw [List.length_map, List.length_replicate]) (by omega) (by omega) (fun _ => rfl)
        rw [front_cells, ← hH3] at hcp
        have hx4 : HX n2 h2 H3 := by subst hH3; exact hx3.set _ (Nat.le_refl _)
        have m3 : hget H3 (n2 + 1) = some ⟨[.slice (some ⟨n2, 0, some 0⟩) (Q + 1) (Q + 1)], 1, false, 22⟩ := by subst hH3; rw [hget_set_ne _ _ _ _ (by omega)]; exact m1
        have m4 : hget H3 n2 = some ⟨(bitsRow B Q k ++ [false]).map Value.bool, 1, false, 4⟩ := by subst hH3; rw [hget_set_self, m2]; rfl
        have b4 : hget H3 nx = some ⟨[.int .i64 Q, .int .i64 K, vB], 1, false, 24⟩ := by rw [hx4 _ (by omega)]; exact b2
        have e9 : hget H3 (nx + 1 + 1) = some ⟨[.int .i64 Q, u], 1, false, 34⟩ := by rw [hx4 _ (by omega)]; exact hg8
        have hl3 : (bitsRow B Q k ++ [false]).length = Q + 1 := by simp [hbl]
        have hkc : Q + 1 ≤ knownCap (Q + 1) := by unfold knownCap; rw [if_pos (by rw [Nat.blt_eq]; unfold big; omega)]; exact Nat.le_refl _
        have hr3 : Rd (oldOf w) H3 Value.bool (.slice (some ⟨n2, 0, some 0⟩) (Q + 1) (Q + 1)) (bitsRow B Q k ++ [false]) := Rd.newb m4 rfl hl3.symm hkc
        have hodd := fun pp => odd_p w (n + 2) (h := H3) (nx := n2 + 2) (p := pp) (f := 39) (caps := [.pointer (some ⟨n2 + 1, 0, some 0⟩)]) Q (fun x => (bitsRow B Q k ++ [false])[x]!) (by omega) (fun i hi => enc1_p w (n + 1) m3 hr3 i (by omega))
        obtain ⟨H4, hH4⟩ : ∃ H4, H4 = hset H3 n2 ⟨(fullRow B Q k).map Value.bool, 1, false, 4⟩ := ⟨_, rfl⟩
        have hx5 : HX n2 h2 H4 := by subst hH4; exact hx4.set _ (Nat.le_refl _)
        have m5 : hget H4 (n2 + 1) = some ⟨[.slice (some ⟨n2, 0, some 0⟩) (Q + 1) (Q + 1)], 1, false, 22⟩ := by subst hH4; rw [hget_set_ne _ _ _ _ (by omega)]; exact m3
        have m6 : hget H4 n2 = some ⟨(fullRow B Q k).map Value.bool, 1, false, 4⟩ := by subst hH4; rw [hget_set_self, m4]; rfl
        have e10 : hget H4 (nx + 1 + 1) = some ⟨[.int .i64 Q, u], 1, false, 34⟩ := by rw [hx5 _ (by omega)]; exact hg8
        have ho' : Own (nx + 1 + 1 + 1) ⟨H4, n2 + 2, p⟩ 22 1 u ((List.range k).map (fullRow B Q)).length ss := ho.to (by simp) rfl fun i hi => hx5 i (by omega)
        have hlk : ((List.range k).map (fullRow B Q)).length = k := by simp
        have happ := ho'.appRow (E := EN w (n + 3)) (b := 24) (c := .slice (some ⟨n2, 0, some 0⟩) (Q + 1) (Q + 1)) (t' := 22) (g := false) rfl (by rw [hlk]; omega) (by rw [hlk]; omega)
        have hsf := set_full B Q k
        repeat' (first | (simp (disch := first | omega | assumption | (exact id (by with_unfolding_all rfl)) | ((refine all_cons _ _ (by first | assumption | exact id (by with_unfolding_all rfl)) ?_); (repeat' (first | exact List.all_nil | refine all_cons _ _ (by first | assumption | exact id (by with_unfolding_all rfl)) ?_)); done) |  exact callP_old _ _ _ _ _ | exact one_int _ _ | exact one_bool _ | exact one_string _ | exact one_slice _ _ _ | exact one_pointer _ | exact hget_push_one _ _ _ _ (by omega) | (simp only [List.length_map, List.length_set, List.length_replicate, List.length_cons, List.length_nil]; omega) | (rw [hget_push_lt _ _ _ _ (by omega)]; first | assumption | exact hget_push_one _ _ _ _ (by omega))) only [WW0, WW1, WW2, WW3, WW4, WW5, WW6, WW7, Option.map_some, args0, slotsL, opdsA, List.cons_append, List.nil_append, List.map_cons, List.map_nil, List.append_nil, Option.toList_some, Option.toList_none, Nat.reduceEqDiff, Nat.reduceLT, Nat.reduceAdd, Nat.reduceBEq, Int.reduceAdd, Int.reduceSub, Int.reduceLT, Int.reduceLE, Int.reduceEq, Int.reduceNeg, ↓reduceIte, if_true, if_false, Bool.false_eq_true, Bool.not_true, Bool.not_false, List.length_cons, List.length_nil, List.length_singleton, reduceCtorEq, Int.toNat_natCast, Nat.zero_add, Nat.add_zero, Int.add_sub_cancel, eq_self, List.drop_zero, List.drop_succ_cons, Option.some.injEq, Prod.mk.injEq, mkFnA, Bool.and_true, Bool.true_and, Bool.and_self, c13l1, b2, hg8, hQn, hrep]) | (refine does_goI_dec (fun _ => ?_) (fun _ => ?_)) | (refine does_goG_dec (fun _ => ?_) (fun _ => ?_)) | (refine does_goI (fun _ => ?_) (fun _ => ?_)) | (refine does_goG (fun _ => ?_) (fun _ => ?_)))
        all_goals rw [← hH2]
        all_goals repeat' (first | (simp (disch := first | omega | assumption | (exact id (by with_unfolding_all rfl)) | ((refine all_cons _ _ (by first | assumption | exact id (by with_unfolding_all rfl)) ?_); (repeat' (first | exact List.all_nil | refine all_cons _ _ (by first | assumption | exact id (by with_unfolding_all rfl)) ?_)); done) |  exact callP_old _ _ _ _ _ | exact one_int _ _ | exact one_bool _ | exact one_string _ | exact one_slice _ _ _ | exact one_pointer _ | exact hget_push_one _ _ _ _ (by omega) | (simp only [List.length_map, List.length_set, List.length_replicate, List.length_cons, List.length_nil]; omega) | (rw [hget_push_lt _ _ _ _ (by omega)]; first | assumption | exact hget_push_one _ _ _ _ (by omega))) only [WW0, WW1, WW2, WW3, WW4, WW5, WW6, WW7, Option.map_some, args0, slotsL, opdsA, List.cons_append, List.nil_append, List.map_cons, List.map_nil, List.append_nil, Option.toList_some, Option.toList_none, Nat.reduceEqDiff, Nat.reduceLT, Nat.reduceAdd, Nat.reduceBEq, Int.reduceAdd, Int.reduceSub, Int.reduceLT, Int.reduceLE, Int.reduceEq, Int.reduceNeg, ↓reduceIte, if_true, if_false, Bool.false_eq_true, Bool.not_true, Bool.not_false, List.length_cons, List.length_nil, List.length_singleton, reduceCtorEq, Int.toNat_natCast, Nat.zero_add, Nat.add_zero, Int.add_sub_cancel, eq_self, List.drop_zero, List.drop_succ_cons, Option.some.injEq, Prod.mk.injEq, mkFnA, Bool.and_true, Bool.true_and, Bool.and_self, m1, b3, hP1, hP2, hs1, hcp, m3, b4, mkFnA, hodd, m4, hsf, ← hH4, m5, e10, happ, hget_delO]) | (refine does_goI_dec (fun _ => ?_) (fun _ => ?_)) | (refine does_goG_dec (fun _ => ?_) (fun _ => ?_)) | (refine does_goI (fun _ => ?_) (fun _ => ?_)) | (refine does_goG (fun _ => ?_) (fun _ => ?_)))
        have hfl := fullRow_len B Q k
        have hgr := hE.grow (i := n2) (n4 := n2 + 2) (by omega) (by omega) hx5 (by omega) (Nat.le_refl _) (by omega) m6 (c := Q + 1) (by rw [hfl]; exact hkc)
        rw [hfl] at hgr
        refine ⟨_, ?_, k + 1, _, _, _, _, rfl, hlt, by simp, rfl, ((((hx2.trans hx5 (by omega)).push _ (by omega)).delO (by omega)).push _ (by omega)).set _ (by omega), by omega, by rw [List.range_succ, List.map_append]; exact hgr⟩
        omega
      · have : k = K := by omega
        subst this
        have hQn : ((Q : Int) + 1).toNat = Q + 1 := by omega
        obtain ⟨H2, hH2⟩ : ∃ H2, H2 = hpush h2 n2 [⟨(List.replicate (Q + 1) false).map Value.bool, 1, false, 4⟩] := ⟨_, rfl⟩
        have hx3 : HX n2 h2 H2 := by subst hH2; exact (HX.refl _ _).push _ (Nat.le_refl _)
        have m1 : hget H2 n2 = some ⟨(lastTo B Q k 0).map Value.bool, 1, false, 4⟩ := by subst hH2; exact hget_push_one _ _ _ _ rfl
        have hlenx : lenX false (.slice (some ⟨n2, 0, some 0⟩) (Q + 1) (Q + 1)) = some (.int .i64 ((Q + 1 : Nat) : Int)) := rfl
        have hkc : Q + 1 ≤ knownCap (Q + 1) := by unfold knownCap; rw [if_pos (by rw [Nat.blt_eq]; unfold big; omega)]; exact Nat.le_refl _
        have hel := encRows_len B Q k
        have hE' : EI w h2 n2 p (nx + 1 + 1) Q u ss (encRows B Q k) := hE
        repeat' (first | (simp (disch := first | omega | assumption | (exact id (by with_unfolding_all rfl)) | ((refine all_cons _ _ (by first | assumption | exact id (by with_unfolding_all rfl)) ?_); (repeat' (first | exact List.all_nil | refine all_cons _ _ (by first | assumption | exact id (by with_unfolding_all rfl)) ?_)); done) |  exact callP_old _ _ _ _ _ | exact one_int _ _ | exact one_bool _ | exact one_string _ | exact one_slice _ _ _ | exact one_pointer _ | exact hget_push_one _ _ _ _ (by omega) | (simp only [List.length_map, List.length_set, List.length_replicate, List.length_cons, List.length_nil]; omega) | (rw [hget_push_lt _ _ _ _ (by omega)]; first | assumption | exact hget_push_one _ _ _ _ (by omega))) only [WW0, WW1, WW2, WW3, WW4, WW5, WW6, WW7, Option.map_some, args0, slotsL, opdsA, List.cons_append, List.nil_append, List.map_cons, List.map_nil, List.append_nil, Option.toList_some, Option.toList_none, Nat.reduceEqDiff, Nat.reduceLT, Nat.reduceAdd, Nat.reduceBEq, Int.reduceAdd, Int.reduceSub, Int.reduceLT, Int.reduceLE, Int.reduceEq, Int.reduceNeg, ↓reduceIte, if_true, if_false, Bool.false_eq_true, Bool.not_true, Bool.not_false, List.length_cons, List.length_nil, List.length_singleton, reduceCtorEq, Int.toNat_natCast, Nat.zero_add, Nat.add_zero, Int.add_sub_cancel, eq_self, List.drop_zero, List.drop_succ_cons, Option.some.injEq, Prod.mk.injEq, mkFnA, Bool.and_true, Bool.true_and, Bool.and_self, c13l1, b2, hg8, hQn, ← hH2, hlenx]) | (refine does_goI_dec (fun _ => ?_) (fun _ => ?_)) | (refine does_goG_dec (fun _ => ?_) (fun _ => ?_)) | (refine does_goI (fun _ => ?_) (fun _ => ?_)) | (refine does_goG (fun _ => ?_) (fun _ => ?_)))
        refine does_while (fun m fr t => ∃ (x : Nat) (h3 : Heap) (n3 : Nat), m = Q + 1 - x ∧ x ≤ Q + 1 ∧ fr = [(1, .pointer (some ⟨nx, 0, some 0⟩)), (2, .pointer (some ⟨nx + 1, 0, some 0⟩)), (5, .pointer (some ⟨nx + 1 + 1, 0, some 0⟩)), (8, .slice (some ⟨n2, 0, some 0⟩) (Q + 1) (Q + 1)), (62, .int .i64 ((Q + 1 : Nat) : Int)), (63, .int .i64 x)] ∧ t = ⟨h3, n3, p⟩ ∧
          HX n2 h2 h3 ∧ n2 + 1 ≤ n3 ∧ hget h3 n2 = some ⟨(lastTo B Q k x).map Value.bool, 1, false, 4⟩) (m := Q + 1) ?_ ?_ ?_
        · exact ⟨0, _, _, by omega, by omega, rfl, rfl, hx3, by omega, m1⟩
        · simp (disch := first | omega | assumption | (exact id (by with_unfolding_all rfl)) | ((refine all_cons _ _ (by first | assumption | exact id (by with_unfolding_all rfl)) ?_); (repeat' (first | exact List.all_nil | refine all_cons _ _ (by first | assumption | exact id (by with_unfolding_all rfl)) ?_)); done) |  exact callP_old _ _ _ _ _ | exact one_int _ _ | exact one_bool _ | exact one_string _ | exact one_slice _ _ _ | exact one_pointer _ | exact hget_push_one _ _ _ _ (by omega) | (simp only [List.length_map, List.length_set, List.length_replicate, List.length_cons, List.length_nil]; omega) | (rw [hget_push_lt _ _ _ _ (by omega)]; first | assumption | exact hget_push_one _ _ _ _ (by omega))) only [WW0, WW1, WW2, WW3, WW4, WW5, WW6, WW7, Option.map_some, args0, slotsL, opdsA, List.cons_append, List.nil_append, List.map_cons, List.map_nil, List.append_nil, Option.toList_some, Option.toList_none, Nat.reduceEqDiff, Nat.reduceLT, Nat.reduceAdd, Nat.reduceBEq, Int.reduceAdd, Int.reduceSub, Int.reduceLT, Int.reduceLE, Int.reduceEq, Int.reduceNeg, ↓reduceIte, if_true, if_false, Bool.false_eq_true, Bool.not_true, Bool.not_false, List.length_cons, List.length_nil, List.length_singleton, reduceCtorEq, Int.toNat_natCast, Nat.zero_add, Nat.add_zero, Int.add_sub_cancel, eq_self, List.drop_zero, List.drop_succ_cons, Option.some.injEq, Prod.mk.injEq, mkFnA, Bool.and_true, Bool.true_and, Bool.and_self]
          unfold many; omega
        · rintro m fr tt ⟨x, h3, n3, rfl, hx, rfl, rfl, hy1, hm1, hrow⟩
          have b5 : hget h3 nx = some ⟨[.int .i64 Q, .int .i64 k, vB], 1, false, 24⟩ := by rw [hy1 _ (by omega)]; exact b2
          by_cases hlx : x < Q + 1
          · obtain ⟨H3, hH3⟩ : ∃ H3, H3 = hset (hpush h3 n3 [⟨((List.replicate 1 (0 : Int)).map vI), 1, false, 3⟩]) n3 ⟨(((List.replicate 1 (0 : Int)).set 0 x).map vI), 1, false, 3⟩ := ⟨_, rfl⟩
            have hy2 : HX n2 h2 H3 := by subst hH3; exact (hy1.push _ (by omega)).set _ (by omega)
            have hg : hget H3 n3 = some ⟨[.int .i64 x], 1, false, 3⟩ := by subst hH3; rw [hget_set_self, hget_push_one _ _ _ _ rfl]; rfl
            have hrow3 : hget H3 n2 = some ⟨(lastTo B Q k x).map Value.bool, 1, false, 4⟩ := by subst hH3; rw [hget_set_ne _ _ _ _ (by omega), hget_push_lt _ _ _ _ (by omega)]; exact hrow
            have b6 : hget H3 nx = some ⟨[.int .i64 Q, .int .i64 k, vB], 1, false, 24⟩ := by rw [hy2 _ (by omega)]; exact b2
            have hE3 := hE'.hx (by omega) hy2 (nx' := n3 + 1) (by omega)
            have hcb3 := hE3.cb (by omega) (fun j hj => by rw [encRows_row B Q k j (by omega)]; omega)
            have hodd := fun pp => odd_p w (n + 2) (h := H3) (nx := n3 + 1) (p := pp) (f := 40) (caps := [.pointer (some ⟨nx + 1 + 1, 0, some 0⟩), .pointer (some ⟨n3, 0, some 0⟩)]) k (fun y => (encRows B Q k)[y]![x]!) (by omega) (fun i hi => enc2_p w (n + 1) hE3.cell x hg hcb3 i (by omega) (by rw [encRows_row B Q k i hi]; omega))
            have hls := lastTo_set B Q k x hlx
            have hll := lastTo_len B Q k x hx
            unfold colV at hls
            repeat' (first | (simp (disch := first | omega | assumption | (exact id (by with_unfolding_all rfl)) | ((refine all_cons _ _ (by first | assumption | exact id (by with_unfolding_all rfl)) ?_); (repeat' (first | exact List.all_nil | refine all_cons _ _ (by first | assumption | exact id (by with_unfolding_all rfl)) ?_)); done) |  exact callP_old _ _ _ _ _ | exact one_int _ _ | exact one_bool _ | exact one_string _ | exact one_slice _ _ _ | exact one_pointer _ | exact hget_push_one _ _ _ _ (by omega) | (simp only [List.length_map, List.length_set, List.length_replicate, List.length_cons, List.length_nil]; omega) | (rw [hget_push_lt _ _ _ _ (by omega)]; first | assumption | exact hget_push_one _ _ _ _ (by omega))) only [WW0, WW1, WW2, WW3, WW4, WW5, WW6, WW7, Option.map_some, args0, slotsL, opdsA, List.cons_append, List.nil_append, List.map_cons, List.map_nil, List.append_nil, Option.toList_some, Option.toList_none, Nat.reduceEqDiff, Nat.reduceLT, Nat.reduceAdd, Nat.reduceBEq, Int.reduceAdd, Int.reduceSub, Int.reduceLT, Int.reduceLE, Int.reduceEq, Int.reduceNeg, ↓reduceIte, if_true, if_false, Bool.false_eq_true, Bool.not_true, Bool.not_false, List.length_cons, List.length_nil, List.length_singleton, reduceCtorEq, Int.toNat_natCast, Nat.zero_add, Nat.add_zero, Int.add_sub_cancel, eq_self, List.drop_zero, List.drop_succ_cons, Option.some.injEq, Prod.mk.injEq, mkFnA, Bool.and_true, Bool.true_and, Bool.and_self, c13l0, ← hH3, hg, b6, mkFnA, hodd, hrow3, hls, hll]) | (refine does_goI_dec (fun _ => ?_) (fun _ => ?_)) | (refine does_goG_dec (fun _ => ?_) (fun _ => ?_)) | (refine does_goI (fun _ => ?_) (fun _ => ?_)) | (refine does_goG (fun _ => ?_) (fun _ => ?_)))
            refine ⟨_, ?_, x + 1, _, _, rfl, hlx, by simp, rfl, hy2.set _ (Nat.le_refl _), by omega, by rw [hget_set_self, hrow3]; rfl⟩
            omega
          · have : x = Q + 1 := by omega
            subst this
            have hE3 := hE'.hx (by omega) hy1 (nx' := n3) (by omega)
            have e11 := hE3.cell
            have e12 : hget h3 (nx + 1) = some ⟨[.int .i64 0, .slice none 0 0], 1, false, 34⟩ := by
              rw [hy1 _ (by omega), hx2 _ (by omega), hx1 _ (by omega)]; subst hH0; exact hget_push_one _ _ _ _ rfl
            have happ := hE3.own.appRow (E := EN w (n + 3)) (b := 24) (c := .slice (some ⟨n2, 0, some 0⟩) (Q + 1) (Q + 1)) (t' := 22) (g := false) rfl (by omega) (by omega)
            have hll := lastTo_len B Q k (Q + 1) (Nat.le_refl _)
            have hgr := hE'.grow (H4 := h3) (i := n2) (n4 := n3) (by omega) (by omega) hy1 (by omega) (Nat.le_refl _) (by omega) hrow (c := Q + 1) (by rw [hll]; exact hkc)
            rw [hll] at hgr
            rw [hel] at happ hgr
            repeat' (first | (simp (disch := first | omega | assumption | (exact id (by with_unfolding_all rfl)) | ((refine all_cons _ _ (by first | assumption | exact id (by with_unfolding_all rfl)) ?_); (repeat' (first | exact List.all_nil | refine all_cons _ _ (by first | assumption | exact id (by with_unfolding_all rfl)) ?_)); done) |  exact callP_old _ _ _ _ _ | exact one_int _ _ | exact one_bool _ | exact one_string _ | exact one_slice _ _ _ | exact one_pointer _ | exact hget_push_one _ _ _ _ (by omega) | (simp only [List.length_map, List.length_set, List.length_replicate, List.length_cons, List.length_nil]; omega) | (rw [hget_push_lt _ _ _ _ (by omega)]; first | assumption | exact hget_push_one _ _ _ _ (by omega))) only [WW0, WW1, WW2, WW3, WW4, WW5, WW6, WW7, Option.map_some, args0, slotsL, opdsA, List.cons_append, List.nil_append, List.map_cons, List.map_nil, List.append_nil, Option.toList_some, Option.toList_none, Nat.reduceEqDiff, Nat.reduceLT, Nat.reduceAdd, Nat.reduceBEq, Int.reduceAdd, Int.reduceSub, Int.reduceLT, Int.reduceLE, Int.reduceEq, Int.reduceNeg, ↓reduceIte, if_true, if_false, Bool.false_eq_true, Bool.not_true, Bool.not_false, List.length_cons, List.length_nil, List.length_singleton, reduceCtorEq, Int.toNat_natCast, Nat.zero_add, Nat.add_zero, Int.add_sub_cancel, eq_self, List.drop_zero, List.drop_succ_cons, Option.some.injEq, Prod.mk.injEq, mkFnA, Bool.and_true, Bool.true_and, Bool.and_self, c13l0, e11, happ, hget_delO, hgr.cell, e12]) | (refine does_goI_dec (fun _ => ?_) (fun _ => ?_)) | (refine does_goG_dec (fun _ => ?_) (fun _ => ?_)) | (refine does_goI (fun _ => ?_) (fun _ => ?_)) | (refine does_goG (fun _ => ?_) (fun _ => ?_)))
            have hx9 : HX nx h h3 := ((hx0.trans hx1 (by omega)).trans hx2 (by omega)).trans hy1 (by omega)
            have hnc := (hgr.nc (by simp; omega) (fun j hj => by
              have := encV_row B Q k j (by have := encV_len B Q k; unfold encV at this; omega)
              unfold encV at this
              rw [this]; omega)).set (i := nx + 1) ⟨[.int .i64 Q, .slice (some ⟨n3 + 1, 0, some 0⟩) (k + 1) (big + (k + 1))], 1, false, 34⟩ (by omega)
            refine ⟨_, _, _, _, by simp [tupleOf], rfl, ((((hx9.push _ (by omega)).delO (by omega)).push _ (by omega)).set _ (by omega)).set _ (by omega), by omega, hnc⟩
  obtain ⟨v, s', hc, u, ss, h', n', rfl, rfl, hq⟩ := key
  exact ⟨u, ss, h', n', hc, hq⟩
end
end Go.Proofs.YtepdkmdcainddaaDoor
namespace Go.Proofs.YtepdkmdcainddaaDoor
open Go Go.Itp
set_option linter.unusedSimpArgs false
set_option linter.unusedVariables false

/-! ### the plain law: what Encode gives is even everywhere -/
theorem oddTo_congr {p q : Nat → Bool} : ∀ k, (∀ i, i < k → p i = q i) → oddTo p k = oddTo q k
  | 0, _ => rfl
  | k + 1, h => by
    have h1 := oddTo_congr k (fun i hi => h i (by omega))
    have h2 := h k (by omega)
    simp only [oddTo, h1, h2]
theorem oddTo_turn {p q : Nat → Bool} {x : Nat} (hx : q x = !p x) (h : ∀ i, i ≠ x → q i = p i) : ∀ k, x < k → oddTo q k = !oddTo p k
  | 0, e => by omega
  | k + 1, e => by
    by_cases hk : k = x
    · subst hk
      have h1 : oddTo q k = oddTo p k := oddTo_congr k (fun i hi => h i (by omega))
      simp only [oddTo, h1, hx]
      cases oddTo p k <;> cases p k <;> rfl
    · have h1 := oddTo_turn hx h k (by omega)
      have h2 := h k hk
      simp only [oddTo, h1, h2]
      cases oddTo p k <;> cases p k <;> rfl
theorem oddTo_last {p : Nat → Bool} {k : Nat} (h : p k = oddTo p k) : oddTo p (k + 1) = false := by
  simp only [oddTo, h]
  cases oddTo p k <;> rfl
theorem encV_old (B : List Bool) (Q K k : Nat) (hk : k < K) : (encV B Q K)[k]! = fullRow B Q k := by
  unfold encV
  rw [get_app_l _ _ _ (by rw [encRows_len]; exact hk), getElem!_pos _ k (by rw [encRows_len]; exact hk)]
  simp [encRows]
theorem encV_last (B : List Bool) (Q K : Nat) : (encV B Q K)[K]! = lastTo B Q K (Q + 1) := by
  unfold encV
  rw [get_app_r _ _ _ (by rw [encRows_len]; exact Nat.le_refl _) (by rw [encRows_len]; simp), encRows_len, Nat.sub_self]
  rfl
theorem fullRow_even (B : List Bool) (Q k : Nat) : oddTo (fun x => (fullRow B Q k)[x]!) (Q + 1) = false := by
  refine oddTo_last ?_
  have hl := bitsRow_len B Q k
  have e1 : (fullRow B Q k)[Q]! = oddTo (fun x => (bitsRow B Q k ++ [false])[x]!) Q := by
    unfold fullRow
    rw [get_app_r _ _ _ (by omega) (by simp; omega), hl, Nat.sub_self]
    rfl
  rw [e1]
  refine oddTo_congr Q fun i hi => ?_
  unfold fullRow
  rw [get_app_l _ _ _ (by omega), get_app_l _ _ _ (by omega)]
theorem lastTo_get (B : List Bool) (Q K x : Nat) (hx : x < Q + 1) : (lastTo B Q K (Q + 1))[x]! = colV B Q K x := by
  unfold lastTo
  rw [get_app_l _ _ _ (by simpa using hx), getElem!_pos _ x (by simpa using hx)]
  simp
theorem encCol_even (B : List Bool) (Q K x : Nat) (hx : x < Q + 1) : oddTo (fun y => (encV B Q K)[y]![x]!) (K + 1) = false := by
  refine oddTo_last ?_
  show (encV B Q K)[K]![x]! = _
  rw [encV_last, lastTo_get B Q K x hx]
  refine oddTo_congr K fun i hi => ?_
  rw [encV_old B Q K i hi, getElem!_pos _ i (by rw [encRows_len]; exact hi)]
  simp [encRows]
theorem oddTo_false : ∀ k, oddTo (fun _ => false) k = false
  | 0 => rfl
  | k + 1 => by simp only [oddTo, oddTo_false k]; rfl
theorem oddTo_xor (a b : Nat → Bool) : ∀ k, oddTo (fun x => !(a x == b x)) k = !(oddTo a k == oddTo b k)
  | 0 => rfl
  | k + 1 => by
    simp only [oddTo, oddTo_xor a b k]
    cases oddTo a k <;> cases oddTo b k <;> cases a k <;> cases b k <;> rfl
theorem oddTo_swap (f : Nat → Nat → Bool) (Q : Nat) : ∀ K, oddTo (fun x => oddTo (fun y => f y x) K) Q = oddTo (fun y => oddTo (fun x => f y x) Q) K
  | 0 => oddTo_false Q
  | K + 1 => by
    have h1 : (fun x => oddTo (fun y => f y x) (K + 1)) = fun x => !(oddTo (fun y => f y x) K == f K x) := rfl
    rw [h1, oddTo_xor, oddTo_swap f Q K]
    rfl
theorem encRows_get (B : List Bool) (Q K y : Nat) (hy : y < K) : (encRows B Q K)[y]! = fullRow B Q y := by
  rw [getElem!_pos _ y (by rw [encRows_len]; exact hy)]
  simp [encRows]
theorem encV_card (B : List Bool) (Q K y : Nat) (hy : y < K + 1) : cardP (encV B Q K) y = false := by
  unfold cardP
  rw [encV_row B Q K y hy]
  by_cases e : y = K
  · subst e
    rw [encV_last]
    have h1 : oddTo (fun x => (lastTo B Q y (Q + 1))[x]!) (Q + 1) = oddTo (fun x => oddTo (fun z => (encRows B Q y)[z]![x]!) y) (Q + 1) := oddTo_congr (Q + 1) fun x hx => lastTo_get B Q y x hx
    rw [h1, oddTo_swap (fun z x => (encRows B Q y)[z]![x]!) (Q + 1) y]
    rw [oddTo_congr (q := fun _ => false) y fun z hz => by
      show oddTo (fun x => (encRows B Q y)[z]![x]!) (Q + 1) = false
      rw [encRows_get B Q y z hz]
      exact fullRow_even B Q z]
    exact oddTo_false y
  · rw [encV_old B Q K y (by omega)]
    exact fullRow_even B Q y
theorem encV_place (B : List Bool) (Q K x : Nat) (hx : x < Q + 1) : placeP (encV B Q K) x = false := by
  unfold placeP
  rw [encV_len]
  exact encCol_even B Q K x hx
/-- one peg turned: its card alone and its place alone are odd -/
theorem flip_get (V : List (List Bool)) (y x y' x' : Nat) (hy : y < V.length) (hx : x < V[y]!.length) : (flip V y x)[y']![x']! = if y' = y ∧ x' = x then !V[y]![x]! else V[y']![x']! := by
  unfold flip
  by_cases e : y' = y
  · subst e
    rw [get_set_eq _ _ _ hy]
    by_cases e2 : x' = x
    · subst e2
      rw [get_set_eq _ _ _ hx, if_pos ⟨rfl, rfl⟩]
    · rw [get_set_ne _ _ _ _ (fun h => e2 h.symm), if_neg (fun h => e2 h.2)]
  · rw [get_set_ne _ _ _ _ (fun h => e h.symm), if_neg (fun h => e h.1)]
end Go.Proofs.YtepdkmdcainddaaDoor
namespace Go.Proofs.YtepdkmdcainddaaDoor
open Go Go.Itp
set_option linter.unusedSimpArgs false
set_option linter.unusedVariables false

theorem flip_len (V : List (List Bool)) (y x : Nat) : (flip V y x).length = V.length := by simp [flip]
theorem flip_row (V : List (List Bool)) (y x k : Nat) (hk : k < V.length) : ((flip V y x)[k]!).length = V[k]!.length := by
  unfold flip
  by_cases e : k = y
  · subst e
    rw [get_set_eq _ _ _ hk, List.length_set]
  · rw [get_set_ne _ _ _ _ (fun h => e h.symm)]
theorem flip_card (V : List (List Bool)) (y x k : Nat) (hy : y < V.length) (hx : x < V[y]!.length) (hk : k < V.length) : cardP (flip V y x) k = if k = y then !cardP V k else cardP V k := by
  unfold cardP
  rw [flip_row V y x k hk]
  by_cases e : k = y
  · subst e
    rw [if_pos rfl]
    exact oddTo_turn (x := x) (by simp only [flip_get V k x k x hk hx]; simp) (fun i hi => by simp only [flip_get V k x k i hk hx]; rw [if_neg (fun h => hi h.2)]) _ hx
  · rw [if_neg e]
    exact oddTo_congr _ fun i hi => by simp only [flip_get V y x k i hy hx]; rw [if_neg (fun h => e h.1)]
theorem flip_place (V : List (List Bool)) (y x z : Nat) (hy : y < V.length) (hx : x < V[y]!.length) : placeP (flip V y x) z = if z = x then !placeP V z else placeP V z := by
  unfold placeP
  rw [flip_len]
  by_cases e : z = x
  · subst e
    rw [if_pos rfl]
    exact oddTo_turn (x := y) (by simp only [flip_get V y z y z hy hx]; simp) (fun i hi => by simp only [flip_get V y z i z hy hx]; rw [if_neg (fun h => hi h.1)]) _ hy
  · rw [if_neg e]
    exact oddTo_congr _ fun i hi => by simp only [flip_get V y x i z hy hx]; rw [if_neg (fun h => e h.2)]
theorem sel_none {p : Nat → Bool} : ∀ k, (∀ i, i < k → p i = false) → sel p k = []
  | 0, _ => rfl
  | k + 1, h => by simp [sel, sel_none k (fun i hi => h i (by omega)), h k (by omega)]
theorem sel_one {p : Nat → Bool} {y : Nat} (hy : p y = true) : ∀ k, (∀ i, i < k → i ≠ y → p i = false) → y < k → sel p k = [(y : Int)]
  | 0, _, e => by omega
  | k + 1, h, e => by
    by_cases hk : k = y
    · subst hk
      simp [sel, sel_none k (fun i hi => h i (by omega) (by omega)), hy]
    · simp [sel, sel_one hy k (fun i hi hn => h i (by omega) hn) (by omega), h k (by omega) hk]
theorem flip_flip (V : List (List Bool)) (y x : Nat) (hy : y < V.length) (hx : x < V[y]!.length) : flip (flip V y x) y x = V := by
  have h1 : (flip V y x)[y]! = V[y]!.set x (!V[y]![x]!) := by unfold flip; rw [get_set_eq _ _ _ hy]
  have h2 : (flip V y x)[y]![x]! = !V[y]![x]! := by rw [h1, get_set_eq _ _ _ hx]
  have h3 : flip (flip V y x) y x = (flip V y x).set y ((flip V y x)[y]!.set x (!(flip V y x)[y]![x]!)) := rfl
  rw [h3, h2, h1]
  unfold flip
  rw [List.set_set, List.set_set, Bool.not_not, getElem!_pos V[y]! x hx, List.set_getElem_self, getElem!_pos V y hy, List.set_getElem_self]
theorem enc_valid (B : List Bool) (Q K : Nat) (hQ : 1 ≤ Q ∧ Q ≤ 40) (hK : 1 ≤ K ∧ K ≤ 64) : validS Q (encV B Q K) = true := by
  have hl := encV_len B Q K
  refine decide_yes ⟨by omega, by omega, by omega, by omega, fun k hk => ?_⟩
  rw [encV_row B Q K k (by omega)]
  simp
theorem valid_flip {q : Int} {V : List (List Bool)} (h : validS q V = true) (y x : Nat) : validS q (flip V y x) = true := by
  obtain ⟨h1, h2, h3, h4, h5⟩ := valid_out h
  have hl := flip_len V y x
  refine decide_yes ⟨h1, h2, by omega, by omega, fun k hk => ?_⟩
  rw [flip_row V y x k (by omega)]
  exact h5 k (by omega)
theorem enc_even (B : List Bool) (Q K : Nat) (hQ : 1 ≤ Q ∧ Q ≤ 40) (hK : 1 ≤ K ∧ K ≤ 64) : wrongE Q (encV B Q K) = 0 ∧ wrongA Q (encV B Q K) = [] ∧ wrongB Q (encV B Q K) = [] := by
  have hv := enc_valid B Q K hQ hK
  refine ⟨by simp [wrongE, hv], ?_, ?_⟩
  · simp only [wrongA, hv, if_true]
    exact sel_none _ fun i hi => encV_card B Q K i (by rw [encV_len] at hi; exact hi)
  · simp only [wrongB, hv, if_true]
    exact sel_none _ fun i hi => encV_place B Q K i (by omega)
theorem one_wrong (B : List Bool) (Q K y x : Nat) (hQ : 1 ≤ Q ∧ Q ≤ 40) (hK : 1 ≤ K ∧ K ≤ 64) (hy : y < K + 1) (hx : x < Q + 1) :
    wrongE Q (flip (encV B Q K) y x) = 0 ∧ wrongA Q (flip (encV B Q K) y x) = [(y : Int)] ∧ wrongB Q (flip (encV B Q K) y x) = [(x : Int)] := by
  have hv := valid_flip (enc_valid B Q K hQ hK) y x
  have hl := encV_len B Q K
  have hr := encV_row B Q K y hy
  have hfl := flip_len (encV B Q K) y x
  refine ⟨by simp [wrongE, hv], ?_, ?_⟩
  · simp only [wrongA, hv, if_true]
    rw [hfl, hl]
    refine sel_one ?_ _ (fun i hi hn => ?_) hy
    · rw [flip_card _ y x y (by omega) (by omega) (by omega), if_pos rfl, encV_card B Q K y hy]; rfl
    · rw [flip_card _ y x i (by omega) (by omega) (by omega), if_neg hn, encV_card B Q K i hi]
  · simp only [wrongB, hv, if_true]
    rw [show ((Q : Int) + 1).toNat = Q + 1 by omega]
    refine sel_one ?_ _ (fun i hi hn => ?_) hx
    · rw [flip_place _ y x x (by omega) (by omega), if_pos rfl, encV_place B Q K x hx]; rfl
    · rw [flip_place _ y x i (by omega) (by omega), if_neg hn, encV_place B Q K i hi]
theorem enc_mend (B : List Bool) (Q K : Nat) (hQ : 1 ≤ Q ∧ Q ≤ 40) (hK : 1 ≤ K ∧ K ≤ 64) : mendE Q (encV B Q K) = 0 ∧ mendS Q (encV B Q K) = ((Q : Int), encV B Q K, (0 : Int), (0 : Int), false) := by
  obtain ⟨h1, h2, h3⟩ := enc_even B Q K hQ hK
  exact ⟨by simp [mendE, h1, h2, h3], by simp [mendS, h1, h2, h3]⟩
theorem one_mend (B : List Bool) (Q K y x : Nat) (hQ : 1 ≤ Q ∧ Q ≤ 40) (hK : 1 ≤ K ∧ K ≤ 64) (hy : y < K + 1) (hx : x < Q + 1) :
    mendE Q (flip (encV B Q K) y x) = 0 ∧ mendS Q (flip (encV B Q K) y x) = ((Q : Int), encV B Q K, (x : Int), (y : Int), true) ∧ decE Q (flip (encV B Q K) y x) = 30 := by
  obtain ⟨h1, h2, h3⟩ := one_wrong B Q K y x hQ hK hy hx
  have hl := encV_len B Q K
  have hr := encV_row B Q K y hy
  have hff := flip_flip (encV B Q K) y x (by omega) (by omega)
  refine ⟨by simp [mendE, h1, h2, h3], ?_, by simp [decE, h1, h2, h3]⟩
  simp only [mendS, h1, h2, h3, if_true]
  simp [hff]
end Go.Proofs.YtepdkmdcainddaaDoor
