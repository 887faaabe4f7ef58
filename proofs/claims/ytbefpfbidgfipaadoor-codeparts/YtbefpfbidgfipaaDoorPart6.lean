/- What is proved: the law CodeParts returns true for every input. Conditions: none beyond the card's own.
   Texts: M33d, M33g.
-/
import Derived.Test.YtbefpfbidgfipaaDoorPart5
import Derived.Test.YtbefpfbidgfipaaDoorCards
import Derived.Test.YtbefpfbidgfipaaDoorTie
import Derived.SizedLaws
import Derived.ChangeAt
import Derived.SevenTiedAt
import Derived.Stop.Joined
import Derived.Lay
namespace Go.Proofs.YtbefpfbidgfipaaDoor
open Go Go.Itp
set_option maxRecDepth 100000
set_option maxHeartbeats 4000000
set_option linter.unusedSimpArgs false
set_option linter.unusedVariables false
theorem insD_app (L M : List Ins) : insD (L ++ M) = insD L ++ insD M := by simp [insD]
theorem partD_front (L : List Ins) (a : Nat) (h : a ≤ L.length) : partD (insD L) 0 (a * 7) = insD (L.take a) := by
  have h1 : (insD (L.take a)).length = a * 7 := by rw [insD_len, List.length_take]; congr 1; omega
  have h2 : insD L = insD (L.take a) ++ insD (L.drop a) := by rw [← insD_app, List.take_append_drop]
  unfold partD
  rw [h2, List.drop_zero, Nat.sub_zero, List.take_left' h1]
theorem partD_back (L : List Ins) (a : Nat) (h : a ≤ L.length) : partD (insD L) (a * 7) (L.length * 7) = insD (L.drop a) := by
  have h1 : (insD (L.take a)).length = a * 7 := by rw [insD_len, List.length_take]; congr 1; omega
  have h2 : insD L = insD (L.take a) ++ insD (L.drop a) := by rw [← insD_app, List.take_append_drop]
  have h3 : (insD (L.drop a)).length = L.length * 7 - a * 7 := by rw [insD_len, List.length_drop]; omega
  unfold partD
  rw [h2, List.drop_left' h1, ← h3, List.take_length]
noncomputable def partsR (L : List Ins) (a : Nat) (wr : List UInt8) : List Ins × Int × Int := match readO wr with
  | none => ([], (a : Int), 12)
  | some i => (L.take a ++ i :: L.drop a, 0, 0)
section
variable (w : World)
theorem cparts_walk {C : Ctx} (hC : C.E = EN w 8) (h0 : C.w0.nx = 0) (L : List Ins) (hL : L.length ≤ 300) (a : Nat) (ha : a ≤ L.length) (wr A B : List UInt8) (hwr : wr.length ≤ 100) (hA : A.length ≤ 20000) (hB : B.length ≤ 20000)
    (hal : VSpec (EN w 8) 20 [] (.sc (.bool true)) ⟨[], 0, 0⟩)
    (t : VSpec (EN w 8) 13 [.sl 3 L.length (insD L)] (.tup [strV (A ++ B), .sc (.int .i64 0)]) ⟨[], 0, 0⟩)
    (ta : VSpec (EN w 8) 13 [.sl 3 a (partD (insD L) 0 (a * 7))] (.tup [strV A, .sc (.int .i64 0)]) ⟨[], 0, 0⟩)
    (tb : VSpec (EN w 8) 13 [.sl 3 (L.length - a) (partD (insD L) (a * 7) (L.length * 7))] (.tup [strV B, .sc (.int .i64 0)]) ⟨[], 0, 0⟩)
    (rd : VSpec (EN w 8) 10 [strV wr] (resI (readO wr)) ⟨[], 0, 0⟩)
    (ps : (10 : UInt8) ∉ wr → VSpec (EN w 8) 15 [strV (A ++ wr ++ [10] ++ B)] (parV (partsR L a wr)) ⟨[], 0, 0⟩) :
    gC C c7.code [] (vargs 0 [.sl 3 L.length (insD L), .sc (.int .i64 a), strV wr]) ⟨[], 0, 0⟩ (RetV C c7.res (.sc (.bool true)) ⟨[], 0, 0⟩) := by
  have hrn : C.E.rounds = many := by rw [hC, callP_rounds]
  have hsz := mk_size wr
  have hil := insD_len L
  simp (disch := first | omega | assumption | exact bd (by with_unfolding_all rfl) | exact Or.inl rfl | exact Or.inl trivial | exact okL_map _ (fun _ => rfl) _ | (simp only [VVlen] <;> omega) | fail) only [O1, WA, slotsL, opdsA, Nat.reduceEqDiff, Nat.reduceLT, Nat.reduceAdd, Nat.reduceBEq, Int.reduceAdd, Int.reduceSub, Int.reduceLT, Int.reduceLE, Int.reduceEq, Int.reduceNeg, ↓reduceIte, reduceCtorEq, List.replicate, c7, hsz]
  refine callV_flat (by rw [hC]; exact hal.flat rfl rfl) ?_
  simp (disch := first | omega | assumption | exact bd (by with_unfolding_all rfl) | exact Or.inl rfl | exact Or.inl trivial | exact okL_map _ (fun _ => rfl) _ | (simp only [VVlen] <;> omega) | fail) only [O1, WA, slotsL, opdsA, Nat.reduceEqDiff, Nat.reduceLT, Nat.reduceAdd, Nat.reduceBEq, Int.reduceAdd, Int.reduceSub, Int.reduceLT, Int.reduceLE, Int.reduceEq, Int.reduceNeg, ↓reduceIte, reduceCtorEq, List.replicate, hsz]
  all_goals try (exfalso; omega)
  refine callV_flat (by rw [hC]; exact t.flat rfl rfl) ?_
  simp (disch := first | omega | assumption | exact bd (by with_unfolding_all rfl) | exact Or.inl rfl | exact Or.inl trivial | exact okL_map _ (fun _ => rfl) _ | (simp only [VVlen] <;> omega) | fail) only [O1, WA, slotsL, opdsA, Nat.reduceEqDiff, Nat.reduceLT, Nat.reduceAdd, Nat.reduceBEq, Int.reduceAdd, Int.reduceSub, Int.reduceLT, Int.reduceLE, Int.reduceEq, Int.reduceNeg, ↓reduceIte, reduceCtorEq, List.replicate, vslc_hi, kindS_3, Int.toNat_natCast]
  refine callV_flat (by rw [hC]; exact ta.flat rfl rfl) ?_
  simp (disch := first | omega | assumption | exact bd (by with_unfolding_all rfl) | exact Or.inl rfl | exact Or.inl trivial | exact okL_map _ (fun _ => rfl) _ | (simp only [VVlen] <;> omega) | fail) only [O1, WA, slotsL, opdsA, Nat.reduceEqDiff, Nat.reduceLT, Nat.reduceAdd, Nat.reduceBEq, Int.reduceAdd, Int.reduceSub, Int.reduceLT, Int.reduceLE, Int.reduceEq, Int.reduceNeg, ↓reduceIte, reduceCtorEq, List.replicate, vslc_lo, kindS_3, Int.toNat_natCast]
  refine callV_flat (by rw [hC]; exact tb.flat rfl rfl) ?_
  simp (disch := first | omega | assumption | exact bd (by with_unfolding_all rfl) | exact Or.inl rfl | exact Or.inl trivial | exact okL_map _ (fun _ => rfl) _ | (simp only [VVlen] <;> omega) | fail) only [O1, WA, slotsL, opdsA, Nat.reduceEqDiff, Nat.reduceLT, Nat.reduceAdd, Nat.reduceBEq, Int.reduceAdd, Int.reduceSub, Int.reduceLT, Int.reduceLE, Int.reduceEq, Int.reduceNeg, ↓reduceIte, reduceCtorEq, List.replicate, cat_l]
  refine g_while (fun m fr st => ∃ (k : Nat), m = wr.length - k ∧ k ≤ wr.length ∧ (∀ j, j < k → wr[j]! ≠ 10) ∧ fr = [(0, .sl 3 L.length (insD L)), (1, .sc (.int .i64 a)), (2, strV wr), (7, .sc (.bool true)), (10, strV A), (12, strV B), (14, .sc (.int .i64 k))] ∧ st = ⟨[], 0, 0⟩) wr.length ?_ ⟨_, _, .refl _ _, 0, by omega, Nat.zero_le _, fun j hj => absurd hj (by omega), rfl, rfl⟩ ?_
  · rw [hrn]; unfold many; omega
  rintro m fr st ⟨k, rfl, hk, hno, rfl, rfl⟩
  by_cases hlt : k < wr.length
  · have hix := idxStr_l wr .i64 k (by omega) (by omega)
    rw [Int.toNat_natCast] at hix
    by_cases h10 : wr[k]! = 10
    · rw [h10, show (((10 : UInt8).toNat : Nat) : Int) = 10 from rfl] at hix
      simp (disch := first | omega | assumption | exact bd (by with_unfolding_all rfl) | exact Or.inl rfl | exact Or.inl trivial | exact okL_map _ (fun _ => rfl) _ | (simp only [VVlen] <;> omega) | fail) only [O1, WA, slotsL, opdsA, Nat.reduceEqDiff, Nat.reduceLT, Nat.reduceAdd, Nat.reduceBEq, Int.reduceAdd, Int.reduceSub, Int.reduceLT, Int.reduceLE, Int.reduceEq, Int.reduceNeg, ↓reduceIte, reduceCtorEq, List.replicate, c7l0, hsz, hix]
      all_goals try (exfalso; omega)
      exact weak_flat rfl h0 rfl
    · have h11 : ¬ ((wr[k]!.toNat : Int) = 10) := fun h => h10 (UInt8.toNat_inj.1 (show wr[k]!.toNat = 10 by omega))
      simp (disch := first | omega | assumption | exact bd (by with_unfolding_all rfl) | exact Or.inl rfl | exact Or.inl trivial | exact okL_map _ (fun _ => rfl) _ | (simp only [VVlen] <;> omega) | fail) only [O1, WA, slotsL, opdsA, Nat.reduceEqDiff, Nat.reduceLT, Nat.reduceAdd, Nat.reduceBEq, Int.reduceAdd, Int.reduceSub, Int.reduceLT, Int.reduceLE, Int.reduceEq, Int.reduceNeg, ↓reduceIte, reduceCtorEq, List.replicate, c7l0, hsz, hix, h11]
      all_goals try (exfalso; omega)
      exact ⟨wr.length - (k + 1), _, _, by omega, .refl _ _, k + 1, rfl, by omega, fun j hj => by
        rcases Nat.lt_succ_iff_lt_or_eq.1 hj with h | h
        · exact hno j h
        · rw [h]; exact h10, rfl, rfl⟩
  · have : k = wr.length := by omega
    subst this
    have hn : (10 : UInt8) ∉ wr := fun hm => by
      obtain ⟨j, hj, e⟩ := List.mem_iff_getElem.1 hm
      exact hno j hj (by rw [getElem!_pos wr j hj, e])
    replace ps := ps hn
    unfold partsR at ps
    cases hr : readO wr with
    | none =>
      rw [hr] at ps rd
      unfold resI insV ins0 at rd
      unfold parV at ps
      simp (disch := first | omega | assumption | exact bd (by with_unfolding_all rfl) | exact Or.inl rfl | exact Or.inl trivial | exact okL_map _ (fun _ => rfl) _ | (simp only [VVlen] <;> omega) | fail) only [O1, WA, slotsL, opdsA, Nat.reduceEqDiff, Nat.reduceLT, Nat.reduceAdd, Nat.reduceBEq, Int.reduceAdd, Int.reduceSub, Int.reduceLT, Int.reduceLE, Int.reduceEq, Int.reduceNeg, ↓reduceIte, reduceCtorEq, List.replicate, c7l0, hsz]
      all_goals try (exfalso; omega)
      refine callV_flat (by rw [hC]; exact rd.flat rfl rfl) ?_
      simp (disch := first | omega | assumption | exact bd (by with_unfolding_all rfl) | exact Or.inl rfl | exact Or.inl trivial | exact okL_map _ (fun _ => rfl) _ | (simp only [VVlen] <;> omega) | fail) only [O1, WA, slotsL, opdsA, Nat.reduceEqDiff, Nat.reduceLT, Nat.reduceAdd, Nat.reduceBEq, Int.reduceAdd, Int.reduceSub, Int.reduceLT, Int.reduceLE, Int.reduceEq, Int.reduceNeg, ↓reduceIte, reduceCtorEq, List.replicate, cat_l]
      refine callV_fin (by rw [hC]; exact ps) rfl rfl (fun _ => rfl) ?_
      simp (disch := first | omega | assumption | exact bd (by with_unfolding_all rfl) | exact Or.inl rfl | exact Or.inl trivial | exact okL_map _ (fun _ => rfl) _ | (simp only [VVlen] <;> omega) | fail) only [O1, WA, slotsL, opdsA, Nat.reduceEqDiff, Nat.reduceLT, Nat.reduceAdd, Nat.reduceBEq, Int.reduceAdd, Int.reduceSub, Int.reduceLT, Int.reduceLE, Int.reduceEq, Int.reduceNeg, ↓reduceIte, reduceCtorEq, List.replicate]
      exact weak_flat rfl h0 rfl
    | some x =>
      rw [hr] at ps rd
      have hag : dload (insD (L.take a ++ x :: L.drop a)) (a * 7) (some 7) = some (insV x) := by
        have h1 := insD_agg (L.take a ++ x :: L.drop a) a (by simp; omega)
        rw [h1]
        congr 2
        have : (L.take a).length = a := by rw [List.length_take]; omega
        rw [getElem!_pos _ a (by simp; omega), List.getElem_append_right (by omega)]
        simp [this]
      have hln : (L.take a ++ x :: L.drop a).length = L.length + 1 := by simp; omega
      unfold parV at ps
      simp only [hln] at ps
      generalize insD (L.take a ++ x :: L.drop a) = N at *
      obtain ⟨xo, xr, xb, xp, xt, xc, xk⟩ := x
      unfold resI insV at rd
      unfold insV at hag
      simp (disch := first | omega | assumption | exact bd (by with_unfolding_all rfl) | exact Or.inl rfl | exact Or.inl trivial | exact okL_map _ (fun _ => rfl) _ | (simp only [VVlen] <;> omega) | fail) only [O1, WA, slotsL, opdsA, Nat.reduceEqDiff, Nat.reduceLT, Nat.reduceAdd, Nat.reduceBEq, Int.reduceAdd, Int.reduceSub, Int.reduceLT, Int.reduceLE, Int.reduceEq, Int.reduceNeg, ↓reduceIte, reduceCtorEq, List.replicate, c7l0, hsz]
      all_goals try (exfalso; omega)
      refine callV_flat (by rw [hC]; exact rd.flat rfl rfl) ?_
      simp (disch := first | omega | assumption | exact bd (by with_unfolding_all rfl) | exact Or.inl rfl | exact Or.inl trivial | exact okL_map _ (fun _ => rfl) _ | (simp only [VVlen] <;> omega) | fail) only [O1, WA, slotsL, opdsA, Nat.reduceEqDiff, Nat.reduceLT, Nat.reduceAdd, Nat.reduceBEq, Int.reduceAdd, Int.reduceSub, Int.reduceLT, Int.reduceLE, Int.reduceEq, Int.reduceNeg, ↓reduceIte, reduceCtorEq, List.replicate, cat_l]
      refine callV_fin (by rw [hC]; exact ps) rfl rfl (fun _ => rfl) ?_
      simp (disch := first | omega | assumption | exact bd (by with_unfolding_all rfl) | exact Or.inl rfl | exact Or.inl trivial | exact okL_map _ (fun _ => rfl) _ | (simp only [VVlen] <;> omega) | fail) only [O1, WA, slotsL, opdsA, Nat.reduceEqDiff, Nat.reduceLT, Nat.reduceAdd, Nat.reduceBEq, Int.reduceAdd, Int.reduceSub, Int.reduceLT, Int.reduceLE, Int.reduceEq, Int.reduceNeg, ↓reduceIte, reduceCtorEq, List.replicate, hag]
      rw [beq_self_eq_true]
      exact weak_flat rfl h0 rfl
theorem cparts_g (L : List Ins) (a : Int) (wr : List UInt8) (hL : L.length ≤ 140737488351232) (hs : wr.length ≤ 140737488351232)
    (hes : (errO Tryd.prog w "strconv.ErrSyntax").isSome = true) (her : (errO Tryd.prog w "strconv.ErrRange").isSome = true) {C : Ctx} (hC : C.E = EN w 8) (h0 : C.w0.nx = 0) :
    gC C c7.code [] (vargs 0 [.sl 3 L.length (insD L), .sc (.int .i64 a), strV wr]) ⟨[], 0, 0⟩ (RetV C c7.res (.sc (.bool true)) ⟨[], 0, 0⟩) := by
  have hsz := mk_size wr
  have hal := alive_p w 0 hes her
  by_cases hg : 300 < L.length ∨ a < 0 ∨ L.length < a ∨ 100 < wr.length
  · rcases (by omega : 300 < L.length ∨ (L.length ≤ 300 ∧ a < 0) ∨ (L.length ≤ 300 ∧ 0 ≤ a ∧ L.length < a) ∨ (L.length ≤ 300 ∧ 0 ≤ a ∧ a ≤ L.length ∧ 100 < wr.length)) with h | ⟨h1, h⟩ | ⟨h1, h2, h⟩ | ⟨h1, h2, h3, h⟩
    all_goals
      repeat' (first | (simp (disch := first | omega | assumption | exact bd (by with_unfolding_all rfl) | exact Or.inl rfl | exact Or.inl trivial | exact okL_map _ (fun _ => rfl) _ | (simp only [VVlen] <;> omega) | fail) only [O1, WA, slotsL, opdsA, Nat.reduceEqDiff, Nat.reduceLT, Nat.reduceAdd, Nat.reduceBEq, Int.reduceAdd, Int.reduceSub, Int.reduceLT, Int.reduceLE, Int.reduceEq, Int.reduceNeg, ↓reduceIte, reduceCtorEq, List.replicate, c7, hsz]) | apply gC_drawW | ((first | apply gI_dec | apply gG_dec | apply gPG_dec | apply gI_var | apply gG_var | apply gPG_var) <;> intro _))
      refine callV_flat (by rw [hC]; exact hal.flat rfl rfl) ?_
      repeat' (first | (simp (disch := first | omega | assumption | exact bd (by with_unfolding_all rfl) | exact Or.inl rfl | exact Or.inl trivial | exact okL_map _ (fun _ => rfl) _ | (simp only [VVlen] <;> omega) | fail) only [O1, WA, slotsL, opdsA, Nat.reduceEqDiff, Nat.reduceLT, Nat.reduceAdd, Nat.reduceBEq, Int.reduceAdd, Int.reduceSub, Int.reduceLT, Int.reduceLE, Int.reduceEq, Int.reduceNeg, ↓reduceIte, reduceCtorEq, List.replicate, hsz]) | apply gC_drawW | ((first | apply gI_dec | apply gG_dec | apply gPG_dec | apply gI_var | apply gG_var | apply gPG_var) <;> intro _))
      all_goals try (exfalso; omega)
      all_goals exact weak_flat rfl h0 rfl
  obtain ⟨k, rfl⟩ := Int.eq_ofNat_of_zero_le (show 0 ≤ a by omega)
  have hk : k ≤ L.length := by omega
  have l1 : (L.take k).length = k := by rw [List.length_take]; omega
  have l2 : (L.drop k).length = L.length - k := List.length_drop
  have ta := ctext_p w 3 3 (L.take k) (by omega)
  have tb := ctext_p w 3 3 (L.drop k) (by omega)
  have t := ctext_p w 3 3 L hL
  rw [l1, ← partD_front L k hk] at ta
  rw [l2, ← partD_back L k hk] at tb
  by_cases hall : L.all insOK = true
  · have hA : (L.take k).all insOK = true := List.all_eq_true.2 fun x hx => List.all_eq_true.1 hall x (List.mem_of_mem_take hx)
    have hB : (L.drop k).all insOK = true := List.all_eq_true.2 fun x hx => List.all_eq_true.1 hall x (List.mem_of_mem_drop hx)
    have x1 := tx_len hA
    have x2 := tx_len hB
    have x3 := tx_len hall
    have hT : tx L = tx (L.take k) ++ tx (L.drop k) := by rw [← tx_app, List.take_append_drop]
    rw [textsF_of (by omega) hA (by omega)] at ta
    rw [textsF_of (by omega) hB (by omega)] at tb
    rw [textsF_of (by omega) hall (by omega), hT] at t
    refine cparts_walk w hC h0 L (by omega) k hk wr (tx (L.take k)) (tx (L.drop k)) (by omega) (by omega) (by omega) hal t ta tb (read_p w 2 hes her wr (by omega)) fun hn => ?_
    have hp := cparse_p w 1 hes her (tx (L.take k) ++ wr ++ [10] ++ tx (L.drop k)) (by simp; omega)
    rw [parseT_mid hA hB hn (by omega) (by omega), l1] at hp
    exact hp
  · have ht : textsF L = ([], 8) := by unfold textsF; rw [if_neg (by omega), if_neg hall]
    rw [ht] at t
    simp (disch := first | omega | assumption | exact bd (by with_unfolding_all rfl) | exact Or.inl rfl | exact Or.inl trivial | exact okL_map _ (fun _ => rfl) _ | (simp only [VVlen] <;> omega) | fail) only [O1, WA, slotsL, opdsA, Nat.reduceEqDiff, Nat.reduceLT, Nat.reduceAdd, Nat.reduceBEq, Int.reduceAdd, Int.reduceSub, Int.reduceLT, Int.reduceLE, Int.reduceEq, Int.reduceNeg, ↓reduceIte, reduceCtorEq, List.replicate, c7, hsz]
    refine callV_flat (by rw [hC]; exact hal.flat rfl rfl) ?_
    simp (disch := first | omega | assumption | exact bd (by with_unfolding_all rfl) | exact Or.inl rfl | exact Or.inl trivial | exact okL_map _ (fun _ => rfl) _ | (simp only [VVlen] <;> omega) | fail) only [O1, WA, slotsL, opdsA, Nat.reduceEqDiff, Nat.reduceLT, Nat.reduceAdd, Nat.reduceBEq, Int.reduceAdd, Int.reduceSub, Int.reduceLT, Int.reduceLE, Int.reduceEq, Int.reduceNeg, ↓reduceIte, reduceCtorEq, List.replicate, hsz]
    all_goals try (exfalso; omega)
    refine callV_flat (by rw [hC]; exact t.flat rfl rfl) ?_
    simp (disch := first | omega | assumption | exact bd (by with_unfolding_all rfl) | exact Or.inl rfl | exact Or.inl trivial | exact okL_map _ (fun _ => rfl) _ | (simp only [VVlen] <;> omega) | fail) only [O1, WA, slotsL, opdsA, Nat.reduceEqDiff, Nat.reduceLT, Nat.reduceAdd, Nat.reduceBEq, Int.reduceAdd, Int.reduceSub, Int.reduceLT, Int.reduceLE, Int.reduceEq, Int.reduceNeg, ↓reduceIte, reduceCtorEq, List.replicate, vslc_hi, kindS_3, Int.toNat_natCast]
    refine callV_flat (by rw [hC]; exact ta.flat rfl rfl) ?_
    simp (disch := first | omega | assumption | exact bd (by with_unfolding_all rfl) | exact Or.inl rfl | exact Or.inl trivial | exact okL_map _ (fun _ => rfl) _ | (simp only [VVlen] <;> omega) | fail) only [O1, WA, slotsL, opdsA, Nat.reduceEqDiff, Nat.reduceLT, Nat.reduceAdd, Nat.reduceBEq, Int.reduceAdd, Int.reduceSub, Int.reduceLT, Int.reduceLE, Int.reduceEq, Int.reduceNeg, ↓reduceIte, reduceCtorEq, List.replicate, vslc_lo, kindS_3, Int.toNat_natCast]
    refine callV_flat (by rw [hC]; exact tb.flat rfl rfl) ?_
    simp (disch := first | omega | assumption | exact bd (by with_unfolding_all rfl) | exact Or.inl rfl | exact Or.inl trivial | exact okL_map _ (fun _ => rfl) _ | (simp only [VVlen] <;> omega) | fail) only [O1, WA, slotsL, opdsA, Nat.reduceEqDiff, Nat.reduceLT, Nat.reduceAdd, Nat.reduceBEq, Int.reduceAdd, Int.reduceSub, Int.reduceLT, Int.reduceLE, Int.reduceEq, Int.reduceNeg, ↓reduceIte, reduceCtorEq, List.replicate]
    exact weak_flat rfl h0 rfl
end
end Go.Proofs.YtbefpfbidgfipaaDoor
namespace Go.Proofs.YtbefpfbidgfipaaDoor
open Go Go.Itp
open Go.ChangeShapes Go.WideShapes Go.ChangeAt Go.RowKit
set_option linter.unusedVariables false
set_option maxRecDepth 100000
set_option maxHeartbeats 4000000
theorem reach_lt : reachBytes ≤ 140737488351232 := by decide
theorem dec_instr {H : Type} {enc : TypeId × Value → H} {W : World} {held : Bool} (cs : List Value) (n : Nat) (y : DataW H × List MemPlace) (hl : cs.length = 7) (h : DataW.trod enc Tryd.prog W 0 (fun _ => true) held n 23 cs = some y) : ∃ i : Ins, cs = insC i := by
  obtain ⟨m, a0, a1, a2, a3, a4, a5, a6, rfl, ⟨y0, h0⟩, ⟨y1, h1⟩, ⟨y2, h2⟩, ⟨y3, h3⟩, ⟨y4, h4⟩, ⟨y5, h5⟩, y6, h6⟩ := dec_seven Tryd.underlying23 rfl rfl rfl rfl rfl rfl rfl (by kernel_rfl) (by kernel_rfl) (by kernel_rfl) (by kernel_rfl) (by kernel_rfl) (by kernel_rfl) (by kernel_rfl) cs n y hl h
  obtain ⟨x0, k0, _, j0⟩ := DataW.trod_int Tryd.underlying5 h0
  obtain ⟨x1, k1⟩ := dec_bool Tryd.underlying4 _ _ _ h1
  obtain ⟨x2, k2, _, j2⟩ := DataW.trod_int Tryd.underlying5 h2
  obtain ⟨x3, k3, _⟩ := DataW.trod_int Tryd.underlying3 h3
  obtain ⟨x4, k4, _⟩ := DataW.trod_int Tryd.underlying3 h4
  obtain ⟨x5, k5, _⟩ := DataW.trod_int Tryd.underlying3 h5
  obtain ⟨x6, k6, _⟩ := DataW.trod_int Tryd.underlying3 h6
  simp only [List.cons.injEq, and_true] at k0 k2 k3 k4 k5 k6
  have b0 := wf8 j0
  have b2 := wf8 j2
  obtain ⟨u0, rfl⟩ := Int.eq_ofNat_of_zero_le b0.1
  obtain ⟨u2, rfl⟩ := Int.eq_ofNat_of_zero_le b2.1
  exact ⟨⟨u0, x1, u2, x3, x4, x5, x6⟩, by rw [k0, k1, k2, k3, k4, k5, k6]; rfl⟩
theorem cellsJ : Tryd.prog.cellsOf 23 = 7 := by kernel_rfl
theorem bytesJ : Tryd.prog.bytesOf 23 = 40 := by kernel_rfl
def listed : List (String × DataW Unit) := [("math/bits.deBruijn32tab", Rows.laid_math_bits_deBruijn32tab), ("math/bits.deBruijn64tab", Rows.laid_math_bits_deBruijn64tab), ("internal/strconv.uint64pow10", Rows.laid_internal_strconv_uint64pow10), ("strconv.ErrRange", Rows.laid_strconv_ErrRange), ("strconv.ErrSyntax", Rows.laid_strconv_ErrSyntax)]
theorem listed_met (os : Os) (args : Array Value) : laidMetH Tryd.prog listed ((World.laidAll Tryd.prog os listed).forCall (fun _ _ => 0) ⟨#[], args, []⟩).memory := by
  rw [MakeChecks.laidMetH_plain _ _ _ (by kernel_rfl)]
  exact laidMet_laidAll _ (by kernel_rfl) (by kernel_rfl)
theorem listed_shaped (os : Os) : (World.laidAll Tryd.prog os listed).Shaped Tryd.prog := World.shaped_of_ZipB (by kernel_rfl) (by kernel_rfl)
theorem stand_ins {l : List TypeId} {t : TypeId} (hall : (l.all fun u => !Tryd.prog.wantsStandIn u) = true) (h : t ∈ l) : Tryd.prog.wantsStandIn t = false := by
  have := List.all_eq_true.1 hall t h
  simpa using this
theorem cparts_lifted (os : Os) (started : os.Started) (H : Type) (enc : TypeId × Value → H) :
    ReturnsInHanded {} Tryd.checked os 7 .any (fun w args => (Rows.codePartsSpec.pre enc Tryd.prog Tryd.f7 [] false w args ∧ laidMetH Tryd.prog listed w) ∧ sizedMet enc Tryd.prog Tryd.f7 (OpenSpec.ofChange Rows.codePartsSpec) false w args)
      (Rows.codePartsSpec.post enc Tryd.prog Tryd.f7 false true false false) := by
  refine returnsInHanded_of_change_and (C := Tryd.checked) (X := fun w _ => laidMetH Tryd.prog listed w) (fun _ _ _ hh h => h.of_heap hh) own started (by kernel_rfl) Tryd.func7
    (ChangeSpec.witness_shaped (enc := enc) (C := Tryd.checked) (os := os) (X := fun w _ => laidMetH Tryd.prog listed w) false (World.laidAll Tryd.prog os listed) #[.slice none 0 0, .int .i64 0, .string .empty] 8 (World.laidAll_os _ _ _) (listed_shaped os) (by kernel_rfl) (by kernel_rfl) (by kernel_rfl) (listed_met os _)) ?_
  intro W base args ds gs before hval0 hW _ hsz0 hL _
  have hval : ∀ (j : Nat) t v, Tryd.f7.params[j]? = some t → args[j]? = some v → Value.okWide Tryd.prog W .any base t v := hval0
  have hW' := hW
  obtain ⟨p, q, hA0, hV, rfl, hfz, hnd⟩ := hW
  have hA : DataW.TrodAll enc Tryd.prog W 0 (fun _ => true) true Tryd.f7.params.toList args.toList ds p := hA0
  have hsz : (DataW.weightsEach Tryd.prog (Tryd.f7.params.toList ++ Rows.codePartsSpec.plain.varTypes Tryd.prog) (ds ++ gs)).all (· ≤ reachBytes) = true := hsz0
  rw [Tryd.params7] at hA hval hsz
  obtain ⟨v0, vs0, d0, ds0, p0, q0, hargs, rfl, rfl, h0, r0⟩ := trodAll_cons hA
  obtain ⟨v1, vs1, d1, ds1, p1, q1, rfl, rfl, rfl, h1, r1⟩ := trodAll_cons r0
  obtain ⟨v2, vs2, d2, ds2, p2, q2, rfl, rfl, rfl, h2, r2⟩ := trodAll_cons r1
  obtain ⟨rfl, rfl, rfl⟩ := trodAll_nil r2
  obtain rfl : args = #[v0, v1, v2] := by cases args; simp_all
  have hr := reach_lt
  obtain ⟨l0, hv0, hli0, hlr0⟩ := rd_structs' (α := Ins) (g := insC) (q := 7) (by decide) (fun a => ⟨rfl, fun c hc => by simp [insC] at hc; rcases hc with rfl | rfl | rfl | rfl | rfl | rfl | rfl <;> rfl⟩) Tryd.underlying34 cellsJ (by rw [bytesJ]; decide) (hval 0 34 v0 rfl rfl) h0 (weights_at (j := 0) hsz rfl rfl) (fun cs n y hl hy => dec_instr cs n y hl hy)
  rw [bytesJ] at hlr0
  have hv0 : VRep (wOld (oldOf W)) (.sl 3 l0.length (insD l0)) v0 := hv0
  obtain ⟨x1, rfl, hx1⟩ := open_num Tryd.underlying3 (hval 1 3 v1 rfl rfl) h1
  obtain ⟨s2, rfl, hs2⟩ := open_str Tryd.underlying9 (hval 2 9 v2 rfl rfl) h2 (weights_at (j := 2) hsz rfl rfl)
  obtain ⟨x2, rfl⟩ : ∃ x : List UInt8, s2 = ⟨x.toArray⟩ := ⟨s2.data.toList, by simp⟩
  rw [mk_size] at hs2
  have hLm : laidMet Tryd.prog listed W := by rw [← MakeChecks.laidMetH_plain _ _ _ (by kernel_rfl)]; exact hL
  have htab : Tab W := laid_tab hLm 2 rfl (g := 3) (t := 129) (e := 107) (k := .u64) (m := 20) (by kernel_rfl) (by kernel_rfl) Tryd.underlying129 Tryd.underlying107 (by kernel_rfl) (by kernel_rfl) rfl
  have hesy : (errO Tryd.prog W "strconv.ErrSyntax").isSome = true := laid_errO hLm 4 rfl (g := 1) (t := 65) (by kernel_rfl) (by kernel_rfl) Tryd.underlying65
  have herr : (errO Tryd.prog W "strconv.ErrRange").isSome = true := laid_errO hLm 3 rfl (g := 2) (t := 65) (by kernel_rfl) (by kernel_rfl) Tryd.underlying65
  obtain ⟨s', hbody⟩ := law_v (old := oldOf W) (rounds := many) (fns := fns) (prims := PR W) (n := 8) (af := c7) (xs := [.sl 3 l0.length (insD l0), .sc (.int .i64 x1), .sc (.string ⟨x2.toArray⟩)]) (xsI := [v0, .int .i64 x1, .string ⟨x2.toArray⟩]) (x := .bool true) (Nat.le_of_ble_eq_true rfl)
    (by simp only [VRepL]; exact ⟨_, _, rfl, hv0, _, _, rfl, .mksc rfl, _, _, rfl, .mksc rfl, rfl⟩) fun C hC hn => cparts_g W l0 x1 x2 (by omega) (by omega) hesy herr hC hn
  have hfn : fns 7 = some c7 := rfl
  have hrv : ids 0 (.bool true) = [] := rfl
  refine (law_of htab (f := 7) (af := c7) hfn (xs := [v0, .int .i64 x1, .string ⟨x2.toArray⟩]) (by simp only [idsL_cons, hli0]; rfl) _ hbody hrv).mono fun e W' ⟨he, hbe⟩ => ?_
  exact ⟨_, he, law_post hW' rfl rfl (by kernel_rfl) (by kernel_rfl) Tryd.underlying4 hbe⟩
theorem cparts_over : Rows.CodePartsSaid :=
  OpenClaim.holds_of_wide 7 Tryd.f7 rfl rfl rfl rfl rfl rfl rfl ⟨rfl, rfl, rfl, rfl, rfl⟩ rfl rfl rfl rfl rfl (by kernel_rfl) Tryd.func7 (by kernel_rfl)
    (of_decide_eq_true (by kernel_rfl)) (by unfold Func.isWrapper; first | (rw [if_pos (by decide +kernel)]; kernel_rfl) | (rw [if_neg (by decide +kernel)]; exact ⟨rfl, rfl⟩))
    (fun os started H enc _ => cparts_lifted os started H enc)
theorem cparts_holds : Rows.CodePartsCardSaid :=
  Claim7.holds_tied_plain_at .later [] [.data, .data, .data, .sentinel, .sentinel] true _ true
    cparts_over (fun _ h => by cases h) (by kernel_rfl) (fun _ h => by cases h) codeParts_row_tie rfl ⟨rfl, rfl⟩ (by kernel_rfl) rfl
    (fun f fn hf hfn => by
      obtain rfl : f = 7 := Option.some.inj ((show Tryd.prog.funcNamed "raddle/raddlelaw33.CodeParts" = some 7 by kernel_rfl).symm.trans hf) |>.symm
      obtain rfl : fn = Tryd.f7 := (Option.some.inj (Tryd.func7.symm.trans hfn)).symm
      exact ⟨by kernel_rfl, fun j t ht => stand_ins (l := [34, 3, 9]) (by kernel_rfl) (by rw [Tryd.params7] at ht; simpa using Array.mem_of_getElem? ht)⟩)
    (by kernel_rfl)
#print axioms cparts_holds
end Go.Proofs.YtbefpfbidgfipaaDoor
