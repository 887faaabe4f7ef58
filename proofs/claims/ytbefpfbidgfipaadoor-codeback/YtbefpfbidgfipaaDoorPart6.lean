/- What is proved: the law CodeBack returns true for every input. Conditions: none beyond the card's own.
   Texts: M33b, M33c, M33f.
-/
import Derived.Test.YtbefpfbidgfipaaDoorPart5
import Derived.Test.YtbefpfbidgfipaaDoorCards
import Derived.Test.YtbefpfbidgfipaaDoorTie
import Derived.SizedLaws
import Derived.ChangeAt
import Derived.SevenTiedAt
import Derived.Stop.Joined
import Derived.Lay
namespace Go.Proofs.YtbefpfbidgfipaaDoor
open Go Go.Itp
set_option maxRecDepth 100000
set_option maxHeartbeats 2000000
set_option linter.unusedSimpArgs false
set_option linter.unusedVariables false
instance insP_dec (i : Ins) : Decidable (InsP i) := by unfold InsP; infer_instance
def rawN (l : List UInt8) : Int := match Lib.atoiAll l with
  | .ok v => v
  | _ => 0
theorem rawN_itoa {z : Int} (h0 : -1000000 ≤ z) (h1 : z ≤ 1000000) : rawN (Lib.itoa z) = z := by
  unfold rawN; rw [atoi_itoa' (by omega) (by omega)]
def rawSet (i : Ins) (p : UInt8 × List UInt8) : Ins :=
  if p.1 = 100 then ⟨i.op, decide (p.2 = [43]), i.bed, i.pos, i.to, i.car, i.rack⟩
  else if p.1 = 110 then ⟨i.op, i.right, if p.2.head? = some 98 then 1 else 0, rawN p.2.tail, i.to, i.car, i.rack⟩
  else if p.1 = 111 then ⟨i.op, i.right, i.bed, i.pos, rawN p.2.tail, i.car, i.rack⟩
  else if p.1 = 99 then ⟨i.op, i.right, i.bed, i.pos, i.to, rawN p.2, i.rack⟩
  else ⟨i.op, i.right, i.bed, i.pos, i.to, i.car, rawN p.2⟩
def opOf (nm : List UInt8) : Nat := ((List.range 10).find? fun k => nameI k == nm).getD 0
theorem opOf_name : ∀ a, a < 10 → opOf (nameI a) = a := by decide
def rawI (s : List UInt8) : Ins := match words 32 s with
  | [] => ins0
  | nm :: ws => ((partsI (opOf nm)).zip ws).foldl rawSet ⟨opOf nm, false, 0, 0, 0, 0, 0⟩
theorem ndl_tail (b : Nat) (z : Int) : (ndl b z).tail = Lib.itoa z := rfl
theorem ndl_head (b : Nat) (z : Int) (h : b ≤ 1) : (if (ndl b z).head? = some 98 then 1 else 0) = b := by
  rcases (by omega : b = 0 ∨ b = 1) with rfl | rfl <;> rfl
theorem rawI_text {i : Ins} (h : InsP i) : rawI (textI i) = i := by
  have hb := h.bounds
  have n1 := rawN_itoa (z := i.pos) (by omega) (by omega)
  have n2 := rawN_itoa (z := i.to) (by omega) (by omega)
  have n3 := rawN_itoa (z := i.car) (by omega) (by omega)
  have n4 := rawN_itoa (z := i.rack) (by omega) (by omega)
  have n5 := ndl_head i.bed i.pos hb.1
  unfold rawI
  rw [textI_words]
  simp only [opOf_name i.op h.op_lt.2]
  unfold InsP at h
  obtain ⟨op, right, bed, pos, to, car, rack⟩ := i
  simp only at h n1 n2 n3 n4 n5 ⊢
  have hs : ∀ r : Bool, decide ((if r = true then [43] else [45] : List UInt8) = [43]) = r := by decide
  rcases h with ⟨h1 | h1, h2, h3, h4, h5, h6, h7⟩ | ⟨h1 | h1 | h1, h2, h3, h4, h5, h6⟩ | ⟨h1, h2, h3, h4, h5, h6⟩ | ⟨h1, h2, h3, h4, h5, h6, h7⟩ | ⟨h1, h2, h3, h4, h5, h6, h7, h8⟩ | ⟨h1, h2, h3, h4, h5, h6, h7⟩
  all_goals
    subst h1
    simp [partsI, rawSet, partT, ndl_tail, n1, n2, n3, n4, n5, hs]
    try simp_all
def readC (s : List UInt8) : Option Ins := if decide (InsP (rawI s)) && textI (rawI s) == s then some (rawI s) else none
theorem readO_c (s : List UInt8) : readO s = readC s := by
  refine (accI_eq (s := s) ?_).symm
  unfold readC
  split
  · rename_i h
    simp only [Bool.and_eq_true, decide_eq_true_eq, beq_iff_eq] at h
    exact h
  · rename_i h
    intro i hi ht
    have e : rawI s = i := by rw [← ht, rawI_text hi]
    rw [e] at h
    simp [hi, ht] at h
theorem readO_bad {s : List UInt8} (h : (readC s).isNone = true) : readO s = none := by rw [readO_c]; simpa using h
theorem lineF_ok {i : Ins} (h : InsP i) : lineF i = (textI i, 0) := by unfold lineF; rw [if_pos (insOK_iff.2 h)]
def exI : Ins := ⟨3, false, 1, -2, 0, 3, 0⟩
def xfI : Ins := ⟨7, false, 0, 1, 0, 0, 0⟩
def exS : List UInt8 := [107, 110, 105, 116, 32, 45, 32, 98, 45, 50, 32, 51]
def xfS : List UInt8 := [120, 102, 101, 114, 32, 102, 49, 32, 98, 48]
def miS : List UInt8 := [107, 110, 105, 116, 32, 43, 32, 98, 50, 32, 51, 10]
def paS : List UInt8 := [105, 110, 32, 49, 10, 114, 97, 99, 107, 32, 57, 10]
theorem lineF_ex : lineF exI = (exS, 0) := by rw [lineF_ok (by decide)]; congr 1; decide +kernel
theorem lineF_xf : lineF xfI = (xfS, 0) := by rw [lineF_ok (by decide)]; congr 1; decide +kernel
theorem insOK_c {i : Ins} (h : InsP i) : [i].all insOK = true := by simp [insOK_iff.2 h]
theorem mirF_ex : mirF [exI] = ([mirI exI], 0) := by
  unfold mirF
  rw [if_neg (by decide), if_pos (insOK_c (by decide))]
  rfl
theorem textsF_ex : textsF [mirI exI] = (miS, 0) := by
  have e : tx [mirI exI] = miS := by decide +kernel
  rw [textsF_of (by decide) (insOK_c (by decide)) (by rw [e]; decide), e]
theorem in1_text : textI ⟨1, false, 0, 0, 0, 1, 0⟩ = [105, 110, 32, 49] := by decide +kernel
theorem in1_read : readO [105, 110, 32, 49] = some ⟨1, false, 0, 0, 0, 1, 0⟩ := by rw [← in1_text]; exact readO_text (by decide)
theorem parseT_ex : parseT paS = ([], 1, 12) := by
  unfold parseT
  rw [if_neg (by decide)]
  rw [show words 10 paS = [105, 110, 32, 49] :: [114, 97, 99, 107, 32, 57] :: [[]] from by decide, parseF_some (by simp) in1_read, parseF_none (by simp) (readO_bad (by decide +kernel))]
  rfl
section
variable (w : World) (n : Nat)
theorem example_p : VSpec (EN w (n + 1)) 42 [] (insV exI) ⟨[], 0, 0⟩ := by
  refine vspec_flat rfl rfl (fun _ _ => rfl) (Nat.le_of_ble_eq_true rfl) (oldVals w) rfl fun C hC h0 => ?_
  simp (disch := first | omega | assumption | exact bd (by with_unfolding_all rfl) | exact Or.inl rfl | exact Or.inl trivial | exact okL_map _ (fun _ => rfl) _ | (simp only [VVlen] <;> omega) | fail) only [O1, WA, slotsL, opdsA, Nat.reduceEqDiff, Nat.reduceLT, Nat.reduceAdd, Nat.reduceBEq, Int.reduceAdd, Int.reduceSub, Int.reduceLT, Int.reduceLE, Int.reduceEq, Int.reduceNeg, ↓reduceIte, reduceCtorEq, List.replicate, c42]
  exact weak_flat rfl h0 rfl
theorem alive_p (hes : (errO Tryd.prog w "strconv.ErrSyntax").isSome = true) (her : (errO Tryd.prog w "strconv.ErrRange").isSome = true) : VSpec (EN w (n + 8)) 20 [] (.sc (.bool true)) ⟨[], 0, 0⟩ := by
  refine vspec_flat rfl rfl (fun _ _ => rfl) (Nat.le_of_ble_eq_true rfl) (oldVals w) rfl fun C hC h0 => ?_
  have e1 := example_p w (n + 6)
  have l1 := cLine_p w (n + 3) exI
  have l2 := cLine_p w (n + 3) xfI
  have m1 := cmirror_p w (n + 1) 0 [exI] (by decide)
  have t1 := ctext_p w (n + 2) 3 [mirI exI] (by decide)
  have p1 := cparse_p w n hes her paS (by decide)
  rw [lineF_ex] at l1
  rw [lineF_xf] at l2
  rw [mirF_ex] at m1
  rw [textsF_ex] at t1
  rw [parseT_ex] at p1
  unfold insV at e1 l1 l2
  unfold exS at l1
  unfold xfS at l2
  unfold miS at t1
  unfold mirV at m1
  unfold parV at p1
  simp (disch := first | omega | assumption | exact bd (by with_unfolding_all rfl) | exact Or.inl rfl | exact Or.inl trivial | exact okL_map _ (fun _ => rfl) _ | (simp only [VVlen] <;> omega) | fail) only [O1, WA, slotsL, opdsA, Nat.reduceEqDiff, Nat.reduceLT, Nat.reduceAdd, Nat.reduceBEq, Int.reduceAdd, Int.reduceSub, Int.reduceLT, Int.reduceLE, Int.reduceEq, Int.reduceNeg, ↓reduceIte, reduceCtorEq, List.replicate, c20]
  refine callV_flat (by rw [hC]; exact e1.flat rfl rfl) ?_
  repeat' (first | (simp (disch := first | omega | assumption | exact bd (by with_unfolding_all rfl) | exact Or.inl rfl | exact Or.inl trivial | exact okL_map _ (fun _ => rfl) _ | (simp only [VVlen] <;> omega) | fail) only [O1, WA, slotsL, opdsA, Nat.reduceEqDiff, Nat.reduceLT, Nat.reduceAdd, Nat.reduceBEq, Int.reduceAdd, Int.reduceSub, Int.reduceLT, Int.reduceLE, Int.reduceEq, Int.reduceNeg, ↓reduceIte, reduceCtorEq, List.replicate]) | apply gC_drawW | ((first | apply gI_dec | apply gG_dec | apply gPG_dec | apply gI_var | apply gG_var | apply gPG_var) <;> intro _))
  refine callV_flat (by rw [hC]; exact l1.flat rfl rfl) ?_
  simp (disch := first | omega | assumption | exact bd (by with_unfolding_all rfl) | exact Or.inl rfl | exact Or.inl trivial | exact okL_map _ (fun _ => rfl) _ | (simp only [VVlen] <;> omega) | fail) only [O1, WA, slotsL, opdsA, Nat.reduceEqDiff, Nat.reduceLT, Nat.reduceAdd, Nat.reduceBEq, Int.reduceAdd, Int.reduceSub, Int.reduceLT, Int.reduceLE, Int.reduceEq, Int.reduceNeg, ↓reduceIte, reduceCtorEq, List.replicate]
  refine callV_flat (by rw [hC]; exact l2.flat rfl rfl) ?_
  simp (disch := first | omega | assumption | exact bd (by with_unfolding_all rfl) | exact Or.inl rfl | exact Or.inl trivial | exact okL_map _ (fun _ => rfl) _ | (simp only [VVlen] <;> omega) | fail) only [O1, WA, slotsL, opdsA, Nat.reduceEqDiff, Nat.reduceLT, Nat.reduceAdd, Nat.reduceBEq, Int.reduceAdd, Int.reduceSub, Int.reduceLT, Int.reduceLE, Int.reduceEq, Int.reduceNeg, ↓reduceIte, reduceCtorEq, List.replicate]
  refine callV_flat (by rw [hC]; exact e1.flat rfl rfl) ?_
  simp (disch := first | omega | assumption | exact bd (by with_unfolding_all rfl) | exact Or.inl rfl | exact Or.inl trivial | exact okL_map _ (fun _ => rfl) _ | (simp only [VVlen] <;> omega) | fail) only [O1, WA, slotsL, opdsA, Nat.reduceEqDiff, Nat.reduceLT, Nat.reduceAdd, Nat.reduceBEq, Int.reduceAdd, Int.reduceSub, Int.reduceLT, Int.reduceLE, Int.reduceEq, Int.reduceNeg, ↓reduceIte, reduceCtorEq, List.replicate, row1V_ins]
  refine callV_of (by rw [hC]; exact m1) rfl rfl rfl ?_
  simp (disch := first | omega | assumption | exact bd (by with_unfolding_all rfl) | exact Or.inl rfl | exact Or.inl trivial | exact okL_map _ (fun _ => rfl) _ | (simp only [VVlen] <;> omega) | fail) only [O1, WA, slotsL, opdsA, Nat.reduceEqDiff, Nat.reduceLT, Nat.reduceAdd, Nat.reduceBEq, Int.reduceAdd, Int.reduceSub, Int.reduceLT, Int.reduceLE, Int.reduceEq, Int.reduceNeg, ↓reduceIte, reduceCtorEq, List.replicate, vsh, vshL, shH, shO, fzSL, fzS]
  refine callV_flat (by rw [hC]; exact t1.flat rfl rfl) ?_
  simp (disch := first | omega | assumption | exact bd (by with_unfolding_all rfl) | exact Or.inl rfl | exact Or.inl trivial | exact okL_map _ (fun _ => rfl) _ | (simp only [VVlen] <;> omega) | fail) only [O1, WA, slotsL, opdsA, Nat.reduceEqDiff, Nat.reduceLT, Nat.reduceAdd, Nat.reduceBEq, Int.reduceAdd, Int.reduceSub, Int.reduceLT, Int.reduceLE, Int.reduceEq, Int.reduceNeg, ↓reduceIte, reduceCtorEq, List.replicate]
  refine callV_fin (by rw [hC]; exact p1) rfl rfl (fun _ => rfl) ?_
  simp (disch := first | omega | assumption | exact bd (by with_unfolding_all rfl) | exact Or.inl rfl | exact Or.inl trivial | exact okL_map _ (fun _ => rfl) _ | (simp only [VVlen] <;> omega) | fail) only [O1, WA, slotsL, opdsA, Nat.reduceEqDiff, Nat.reduceLT, Nat.reduceAdd, Nat.reduceBEq, Int.reduceAdd, Int.reduceSub, Int.reduceLT, Int.reduceLE, Int.reduceEq, Int.reduceNeg, ↓reduceIte, reduceCtorEq, List.replicate]
  exact weak_flat rfl h0 rfl
end
end Go.Proofs.YtbefpfbidgfipaaDoor
namespace Go.Proofs.YtbefpfbidgfipaaDoor
open Go Go.Itp
set_option maxRecDepth 100000
set_option maxHeartbeats 2000000
set_option linter.unusedSimpArgs false
set_option linter.unusedVariables false
theorem cback_walk (w : World) {C : Ctx} (hC : C.E = EN w 8) (h0 : C.w0.nx = 0) (L : List Ins) (hL : L.length ≤ 300) (s : List UInt8) (hs : s.length ≤ 5000) (T : List UInt8) (Te : Int) (M : List Ins) (pn pe : Int)
    (hal : VSpec (EN w 8) 20 [] (.sc (.bool true)) ⟨[], 0, 0⟩)
    (t1 : VSpec (EN w 8) 13 [.sl 3 L.length (insD L)] (.tup [strV T, .sc (.int .i64 Te)]) ⟨[], 0, 0⟩)
    (p1 : Te = 0 → VSpec (EN w 8) 15 [strV T] (.tup [.sl 3 L.length (insD L), .sc (.int .i64 0), .sc (.int .i64 0)]) ⟨[], 0, 0⟩)
    (s1 : VSpec (EN w 8) 19 [.sl 3 L.length (insD L), .sl 3 L.length (insD L)] (.sc (.bool true)) ⟨[], 0, 0⟩)
    (p2 : VSpec (EN w 8) 15 [strV s] (.tup [.sl 3 M.length (insD M), .sc (.int .i64 pn), .sc (.int .i64 pe)]) ⟨[], 0, 0⟩)
    (hp : (pe = 0 ∧ pn = 0) ∨ (M = [] ∧ (pe = 12 ∧ 0 ≤ pn ∨ pe = 4 ∧ pn = 0)))
    (t2 : pe = 0 → VSpec (EN w 8) 13 [.sl 3 M.length (insD M)] (.tup [strV s, .sc (.int .i64 0)]) ⟨[], 0, 0⟩) :
    gC C c6.code [] (vargs 0 [.sl 3 L.length (insD L), strV s]) ⟨[], 0, 0⟩ (RetV C c6.res (.sc (.bool true)) ⟨[], 0, 0⟩) := by
  have hsz := mk_size s
  by_cases he : Te = 0
  · replace p1 := p1 he
    subst he
    rcases hp with ⟨rfl, rfl⟩ | ⟨rfl, ⟨rfl, hpn⟩ | ⟨rfl, rfl⟩⟩
    all_goals
      repeat' (first | (simp (disch := first | omega | assumption | exact bd (by with_unfolding_all rfl) | exact Or.inl rfl | exact Or.inl trivial | exact okL_map _ (fun _ => rfl) _ | (simp only [VVlen] <;> omega) | fail) only [O1, WA, slotsL, opdsA, Nat.reduceEqDiff, Nat.reduceLT, Nat.reduceAdd, Nat.reduceBEq, Int.reduceAdd, Int.reduceSub, Int.reduceLT, Int.reduceLE, Int.reduceEq, Int.reduceNeg, ↓reduceIte, reduceCtorEq, List.replicate, c6, hsz]) | apply gC_drawW | ((first | apply gI_dec | apply gG_dec | apply gPG_dec | apply gI_var | apply gG_var | apply gPG_var) <;> intro _))
      refine callV_flat (by rw [hC]; exact hal.flat rfl rfl) ?_
      repeat' (first | (simp (disch := first | omega | assumption | exact bd (by with_unfolding_all rfl) | exact Or.inl rfl | exact Or.inl trivial | exact okL_map _ (fun _ => rfl) _ | (simp only [VVlen] <;> omega) | fail) only [O1, WA, slotsL, opdsA, Nat.reduceEqDiff, Nat.reduceLT, Nat.reduceAdd, Nat.reduceBEq, Int.reduceAdd, Int.reduceSub, Int.reduceLT, Int.reduceLE, Int.reduceEq, Int.reduceNeg, ↓reduceIte, reduceCtorEq, List.replicate, hsz]) | apply gC_drawW | ((first | apply gI_dec | apply gG_dec | apply gPG_dec | apply gI_var | apply gG_var | apply gPG_var) <;> intro _))
      all_goals try (exfalso; omega)
      refine callV_flat (by rw [hC]; exact t1.flat rfl rfl) ?_
      repeat' (first | (simp (disch := first | omega | assumption | exact bd (by with_unfolding_all rfl) | exact Or.inl rfl | exact Or.inl trivial | exact okL_map _ (fun _ => rfl) _ | (simp only [VVlen] <;> omega) | fail) only [O1, WA, slotsL, opdsA, Nat.reduceEqDiff, Nat.reduceLT, Nat.reduceAdd, Nat.reduceBEq, Int.reduceAdd, Int.reduceSub, Int.reduceLT, Int.reduceLE, Int.reduceEq, Int.reduceNeg, ↓reduceIte, reduceCtorEq, List.replicate]) | apply gC_drawW | ((first | apply gI_dec | apply gG_dec | apply gPG_dec | apply gI_var | apply gG_var | apply gPG_var) <;> intro _))
      refine callV_fin (by rw [hC]; exact p1) rfl rfl (fun _ => rfl) ?_
      repeat' (first | (simp (disch := first | omega | assumption | exact bd (by with_unfolding_all rfl) | exact Or.inl rfl | exact Or.inl trivial | exact okL_map _ (fun _ => rfl) _ | (simp only [VVlen] <;> omega) | fail) only [O1, WA, slotsL, opdsA, Nat.reduceEqDiff, Nat.reduceLT, Nat.reduceAdd, Nat.reduceBEq, Int.reduceAdd, Int.reduceSub, Int.reduceLT, Int.reduceLE, Int.reduceEq, Int.reduceNeg, ↓reduceIte, reduceCtorEq, List.replicate]) | apply gC_drawW | ((first | apply gI_dec | apply gG_dec | apply gPG_dec | apply gI_var | apply gG_var | apply gPG_var) <;> intro _))
      refine callV_flat (by rw [hC]; exact s1.flat rfl rfl) ?_
      repeat' (first | (simp (disch := first | omega | assumption | exact bd (by with_unfolding_all rfl) | exact Or.inl rfl | exact Or.inl trivial | exact okL_map _ (fun _ => rfl) _ | (simp only [VVlen] <;> omega) | fail) only [O1, WA, slotsL, opdsA, Nat.reduceEqDiff, Nat.reduceLT, Nat.reduceAdd, Nat.reduceBEq, Int.reduceAdd, Int.reduceSub, Int.reduceLT, Int.reduceLE, Int.reduceEq, Int.reduceNeg, ↓reduceIte, reduceCtorEq, List.replicate]) | apply gC_drawW | ((first | apply gI_dec | apply gG_dec | apply gPG_dec | apply gI_var | apply gG_var | apply gPG_var) <;> intro _))
      refine callV_fin (by rw [hC]; exact p2) rfl rfl (fun _ => rfl) ?_
      repeat' (first | (simp (disch := first | omega | assumption | exact bd (by with_unfolding_all rfl) | exact Or.inl rfl | exact Or.inl trivial | exact okL_map _ (fun _ => rfl) _ | (simp only [VVlen] <;> omega) | fail) only [O1, WA, slotsL, opdsA, Nat.reduceEqDiff, Nat.reduceLT, Nat.reduceAdd, Nat.reduceBEq, Int.reduceAdd, Int.reduceSub, Int.reduceLT, Int.reduceLE, Int.reduceEq, Int.reduceNeg, ↓reduceIte, reduceCtorEq, List.replicate]) | apply gC_drawW | ((first | apply gI_dec | apply gG_dec | apply gPG_dec | apply gI_var | apply gG_var | apply gPG_var) <;> intro _))
    · refine callV_flat (by rw [hC]; exact (t2 rfl).flat rfl rfl) ?_
      simp (disch := first | omega | assumption | exact bd (by with_unfolding_all rfl) | exact Or.inl rfl | exact Or.inl trivial | exact okL_map _ (fun _ => rfl) _ | (simp only [VVlen] <;> omega) | fail) only [O1, WA, slotsL, opdsA, Nat.reduceEqDiff, Nat.reduceLT, Nat.reduceAdd, Nat.reduceBEq, Int.reduceAdd, Int.reduceSub, Int.reduceLT, Int.reduceLE, Int.reduceEq, Int.reduceNeg, ↓reduceIte, reduceCtorEq, List.replicate]
      exact weak_flat rfl h0 rfl
    all_goals try (exfalso; omega)
    all_goals exact weak_flat rfl h0 rfl
  · rcases hp with ⟨rfl, rfl⟩ | ⟨rfl, ⟨rfl, hpn⟩ | ⟨rfl, rfl⟩⟩
    all_goals
      repeat' (first | (simp (disch := first | omega | assumption | exact bd (by with_unfolding_all rfl) | exact Or.inl rfl | exact Or.inl trivial | exact okL_map _ (fun _ => rfl) _ | (simp only [VVlen] <;> omega) | fail) only [O1, WA, slotsL, opdsA, Nat.reduceEqDiff, Nat.reduceLT, Nat.reduceAdd, Nat.reduceBEq, Int.reduceAdd, Int.reduceSub, Int.reduceLT, Int.reduceLE, Int.reduceEq, Int.reduceNeg, ↓reduceIte, reduceCtorEq, List.replicate, c6, hsz]) | apply gC_drawW | ((first | apply gI_dec | apply gG_dec | apply gPG_dec | apply gI_var | apply gG_var | apply gPG_var) <;> intro _))
      refine callV_flat (by rw [hC]; exact hal.flat rfl rfl) ?_
      repeat' (first | (simp (disch := first | omega | assumption | exact bd (by with_unfolding_all rfl) | exact Or.inl rfl | exact Or.inl trivial | exact okL_map _ (fun _ => rfl) _ | (simp only [VVlen] <;> omega) | fail) only [O1, WA, slotsL, opdsA, Nat.reduceEqDiff, Nat.reduceLT, Nat.reduceAdd, Nat.reduceBEq, Int.reduceAdd, Int.reduceSub, Int.reduceLT, Int.reduceLE, Int.reduceEq, Int.reduceNeg, ↓reduceIte, reduceCtorEq, List.replicate, hsz]) | apply gC_drawW | ((first | apply gI_dec | apply gG_dec | apply gPG_dec | apply gI_var | apply gG_var | apply gPG_var) <;> intro _))
      all_goals try (exfalso; omega)
      refine callV_flat (by rw [hC]; exact t1.flat rfl rfl) ?_
      repeat' (first | (simp (disch := first | omega | assumption | exact bd (by with_unfolding_all rfl) | exact Or.inl rfl | exact Or.inl trivial | exact okL_map _ (fun _ => rfl) _ | (simp only [VVlen] <;> omega) | fail) only [O1, WA, slotsL, opdsA, Nat.reduceEqDiff, Nat.reduceLT, Nat.reduceAdd, Nat.reduceBEq, Int.reduceAdd, Int.reduceSub, Int.reduceLT, Int.reduceLE, Int.reduceEq, Int.reduceNeg, ↓reduceIte, reduceCtorEq, List.replicate, he]) | apply gC_drawW | ((first | apply gI_dec | apply gG_dec | apply gPG_dec | apply gI_var | apply gG_var | apply gPG_var) <;> intro _))
      all_goals try (exfalso; omega)
      refine callV_fin (by rw [hC]; exact p2) rfl rfl (fun _ => rfl) ?_
      repeat' (first | (simp (disch := first | omega | assumption | exact bd (by with_unfolding_all rfl) | exact Or.inl rfl | exact Or.inl trivial | exact okL_map _ (fun _ => rfl) _ | (simp only [VVlen] <;> omega) | fail) only [O1, WA, slotsL, opdsA, Nat.reduceEqDiff, Nat.reduceLT, Nat.reduceAdd, Nat.reduceBEq, Int.reduceAdd, Int.reduceSub, Int.reduceLT, Int.reduceLE, Int.reduceEq, Int.reduceNeg, ↓reduceIte, reduceCtorEq, List.replicate]) | apply gC_drawW | ((first | apply gI_dec | apply gG_dec | apply gPG_dec | apply gI_var | apply gG_var | apply gPG_var) <;> intro _))
    · refine callV_flat (by rw [hC]; exact (t2 rfl).flat rfl rfl) ?_
      simp (disch := first | omega | assumption | exact bd (by with_unfolding_all rfl) | exact Or.inl rfl | exact Or.inl trivial | exact okL_map _ (fun _ => rfl) _ | (simp only [VVlen] <;> omega) | fail) only [O1, WA, slotsL, opdsA, Nat.reduceEqDiff, Nat.reduceLT, Nat.reduceAdd, Nat.reduceBEq, Int.reduceAdd, Int.reduceSub, Int.reduceLT, Int.reduceLE, Int.reduceEq, Int.reduceNeg, ↓reduceIte, reduceCtorEq, List.replicate]
      exact weak_flat rfl h0 rfl
    all_goals try (exfalso; omega)
    all_goals exact weak_flat rfl h0 rfl
theorem cback_g (w : World) (L : List Ins) (s : List UInt8) (hL : L.length ≤ 140737488351232) (hs : s.length ≤ 140737488351232)
    (hes : (errO Tryd.prog w "strconv.ErrSyntax").isSome = true) (her : (errO Tryd.prog w "strconv.ErrRange").isSome = true) {C : Ctx} (hC : C.E = EN w 8) (h0 : C.w0.nx = 0) :
    gC C c6.code [] (vargs 0 [.sl 3 L.length (insD L), strV s]) ⟨[], 0, 0⟩ (RetV C c6.res (.sc (.bool true)) ⟨[], 0, 0⟩) := by
  have hsz := mk_size s
  have hal := alive_p w 0 hes her
  by_cases hl : 300 < L.length
  · simp (disch := first | omega | assumption | exact bd (by with_unfolding_all rfl) | exact Or.inl rfl | exact Or.inl trivial | exact okL_map _ (fun _ => rfl) _ | (simp only [VVlen] <;> omega) | fail) only [O1, WA, slotsL, opdsA, Nat.reduceEqDiff, Nat.reduceLT, Nat.reduceAdd, Nat.reduceBEq, Int.reduceAdd, Int.reduceSub, Int.reduceLT, Int.reduceLE, Int.reduceEq, Int.reduceNeg, ↓reduceIte, reduceCtorEq, List.replicate, c6, hsz]
    refine callV_flat (by rw [hC]; exact hal.flat rfl rfl) ?_
    repeat' (first | (simp (disch := first | omega | assumption | exact bd (by with_unfolding_all rfl) | exact Or.inl rfl | exact Or.inl trivial | exact okL_map _ (fun _ => rfl) _ | (simp only [VVlen] <;> omega) | fail) only [O1, WA, slotsL, opdsA, Nat.reduceEqDiff, Nat.reduceLT, Nat.reduceAdd, Nat.reduceBEq, Int.reduceAdd, Int.reduceSub, Int.reduceLT, Int.reduceLE, Int.reduceEq, Int.reduceNeg, ↓reduceIte, reduceCtorEq, List.replicate, hsz]) | apply gC_drawW | ((first | apply gI_dec | apply gG_dec | apply gPG_dec | apply gI_var | apply gG_var | apply gPG_var) <;> intro _))
    all_goals try (exfalso; omega)
    all_goals exact weak_flat rfl h0 rfl
  by_cases hl2 : 5000 < s.length
  · simp (disch := first | omega | assumption | exact bd (by with_unfolding_all rfl) | exact Or.inl rfl | exact Or.inl trivial | exact okL_map _ (fun _ => rfl) _ | (simp only [VVlen] <;> omega) | fail) only [O1, WA, slotsL, opdsA, Nat.reduceEqDiff, Nat.reduceLT, Nat.reduceAdd, Nat.reduceBEq, Int.reduceAdd, Int.reduceSub, Int.reduceLT, Int.reduceLE, Int.reduceEq, Int.reduceNeg, ↓reduceIte, reduceCtorEq, List.replicate, c6, hsz]
    refine callV_flat (by rw [hC]; exact hal.flat rfl rfl) ?_
    repeat' (first | (simp (disch := first | omega | assumption | exact bd (by with_unfolding_all rfl) | exact Or.inl rfl | exact Or.inl trivial | exact okL_map _ (fun _ => rfl) _ | (simp only [VVlen] <;> omega) | fail) only [O1, WA, slotsL, opdsA, Nat.reduceEqDiff, Nat.reduceLT, Nat.reduceAdd, Nat.reduceBEq, Int.reduceAdd, Int.reduceSub, Int.reduceLT, Int.reduceLE, Int.reduceEq, Int.reduceNeg, ↓reduceIte, reduceCtorEq, List.replicate, hsz]) | apply gC_drawW | ((first | apply gI_dec | apply gG_dec | apply gPG_dec | apply gI_var | apply gG_var | apply gPG_var) <;> intro _))
    all_goals try (exfalso; omega)
    all_goals exact weak_flat rfl h0 rfl
  have hb := parseT_back s
  refine cback_walk w hC h0 L (by omega) s (by omega) (textsF L).1 (textsF L).2 (parseT s).1 (parseT s).2.1 (parseT s).2.2 hal (ctext_p w 3 3 L hL) (fun he => ?_) (rsame_p w 7 3 3 L hL) (cparse_p w 1 hes her s (by omega)) ?_ (fun he => ?_)
  · obtain ⟨h1, h2, h3, h4⟩ := textsF_ok he
    have hp := cparse_p w 1 hes her (textsF L).1 (by rw [h4]; omega)
    rw [h4, parseT_tx h1 h2 h3] at hp
    rw [h4]
    exact hp
  · rcases hb with ⟨a, b, _⟩ | h
    · exact .inl ⟨a, b⟩
    · exact .inr h
  · rcases hb with ⟨_, _, c⟩ | ⟨_, ⟨a, _⟩ | ⟨a, _⟩⟩
    · have ht := ctext_p w 3 3 (parseT s).1 (by have := parseT_le s; omega)
      rw [c] at ht
      exact ht
    · rw [a] at he; exact absurd he (by decide)
    · rw [a] at he; exact absurd he (by decide)
end Go.Proofs.YtbefpfbidgfipaaDoor
namespace Go.Proofs.YtbefpfbidgfipaaDoor
open Go Go.Itp
open Go.ChangeShapes Go.WideShapes Go.ChangeAt Go.RowKit
set_option linter.unusedVariables false
set_option maxRecDepth 100000
set_option maxHeartbeats 4000000
theorem reach_lt : reachBytes ≤ 140737488351232 := by decide
theorem dec_instr {H : Type} {enc : TypeId × Value → H} {W : World} {held : Bool} (cs : List Value) (n : Nat) (y : DataW H × List MemPlace) (hl : cs.length = 7) (h : DataW.trod enc Tryd.prog W 0 (fun _ => true) held n 23 cs = some y) : ∃ i : Ins, cs = insC i := by
  obtain ⟨m, a0, a1, a2, a3, a4, a5, a6, rfl, ⟨y0, h0⟩, ⟨y1, h1⟩, ⟨y2, h2⟩, ⟨y3, h3⟩, ⟨y4, h4⟩, ⟨y5, h5⟩, y6, h6⟩ := dec_seven Tryd.underlying23 rfl rfl rfl rfl rfl rfl rfl (by kernel_rfl) (by kernel_rfl) (by kernel_rfl) (by kernel_rfl) (by kernel_rfl) (by kernel_rfl) (by kernel_rfl) cs n y hl h
  obtain ⟨x0, k0, _, j0⟩ := DataW.trod_int Tryd.underlying5 h0
  obtain ⟨x1, k1⟩ := dec_bool Tryd.underlying4 _ _ _ h1
  obtain ⟨x2, k2, _, j2⟩ := DataW.trod_int Tryd.underlying5 h2
  obtain ⟨x3, k3, _⟩ := DataW.trod_int Tryd.underlying3 h3
  obtain ⟨x4, k4, _⟩ := DataW.trod_int Tryd.underlying3 h4
  obtain ⟨x5, k5, _⟩ := DataW.trod_int Tryd.underlying3 h5
  obtain ⟨x6, k6, _⟩ := DataW.trod_int Tryd.underlying3 h6
  simp only [List.cons.injEq, and_true] at k0 k2 k3 k4 k5 k6
  have b0 := wf8 j0
  have b2 := wf8 j2
  obtain ⟨u0, rfl⟩ := Int.eq_ofNat_of_zero_le b0.1
  obtain ⟨u2, rfl⟩ := Int.eq_ofNat_of_zero_le b2.1
  exact ⟨⟨u0, x1, u2, x3, x4, x5, x6⟩, by rw [k0, k1, k2, k3, k4, k5, k6]; rfl⟩
theorem cellsJ : Tryd.prog.cellsOf 23 = 7 := by kernel_rfl
theorem bytesJ : Tryd.prog.bytesOf 23 = 40 := by kernel_rfl
def listed : List (String × DataW Unit) := [("math/bits.deBruijn32tab", Rows.laid_math_bits_deBruijn32tab), ("math/bits.deBruijn64tab", Rows.laid_math_bits_deBruijn64tab), ("internal/strconv.uint64pow10", Rows.laid_internal_strconv_uint64pow10), ("strconv.ErrRange", Rows.laid_strconv_ErrRange), ("strconv.ErrSyntax", Rows.laid_strconv_ErrSyntax)]
theorem listed_met (os : Os) (args : Array Value) : laidMetH Tryd.prog listed ((World.laidAll Tryd.prog os listed).forCall (fun _ _ => 0) ⟨#[], args, []⟩).memory := by
  rw [MakeChecks.laidMetH_plain _ _ _ (by kernel_rfl)]
  exact laidMet_laidAll _ (by kernel_rfl) (by kernel_rfl)
theorem listed_shaped (os : Os) : (World.laidAll Tryd.prog os listed).Shaped Tryd.prog := World.shaped_of_ZipB (by kernel_rfl) (by kernel_rfl)
theorem stand_ins {l : List TypeId} {t : TypeId} (hall : (l.all fun u => !Tryd.prog.wantsStandIn u) = true) (h : t ∈ l) : Tryd.prog.wantsStandIn t = false := by
  have := List.all_eq_true.1 hall t h
  simpa using this
theorem cback_lifted (os : Os) (started : os.Started) (H : Type) (enc : TypeId × Value → H) :
    ReturnsInHanded {} Tryd.checked os 6 .any (fun w args => (Rows.codeBackSpec.pre enc Tryd.prog Tryd.f6 [] false w args ∧ laidMetH Tryd.prog listed w) ∧ sizedMet enc Tryd.prog Tryd.f6 (OpenSpec.ofChange Rows.codeBackSpec) false w args)
      (Rows.codeBackSpec.post enc Tryd.prog Tryd.f6 false true false false) := by
  refine returnsInHanded_of_change_and (C := Tryd.checked) (X := fun w _ => laidMetH Tryd.prog listed w) (fun _ _ _ hh h => h.of_heap hh) own started (by kernel_rfl) Tryd.func6
    (ChangeSpec.witness_shaped (enc := enc) (C := Tryd.checked) (os := os) (X := fun w _ => laidMetH Tryd.prog listed w) false (World.laidAll Tryd.prog os listed) #[.slice none 0 0, .string .empty] 8 (World.laidAll_os _ _ _) (listed_shaped os) (by kernel_rfl) (by kernel_rfl) (by kernel_rfl) (listed_met os _)) ?_
  intro W base args ds gs before hval0 hW _ hsz0 hL _
  have hval : ∀ (j : Nat) t v, Tryd.f6.params[j]? = some t → args[j]? = some v → Value.okWide Tryd.prog W .any base t v := hval0
  have hW' := hW
  obtain ⟨p, q, hA0, hV, rfl, hfz, hnd⟩ := hW
  have hA : DataW.TrodAll enc Tryd.prog W 0 (fun _ => true) true Tryd.f6.params.toList args.toList ds p := hA0
  have hsz : (DataW.weightsEach Tryd.prog (Tryd.f6.params.toList ++ Rows.codeBackSpec.plain.varTypes Tryd.prog) (ds ++ gs)).all (· ≤ reachBytes) = true := hsz0
  rw [Tryd.params6] at hA hval hsz
  obtain ⟨v0, vs0, d0, ds0, p0, q0, hargs, rfl, rfl, h0, r0⟩ := trodAll_cons hA
  obtain ⟨v1, vs1, d1, ds1, p1, q1, rfl, rfl, rfl, h1, r1⟩ := trodAll_cons r0
  obtain ⟨rfl, rfl, rfl⟩ := trodAll_nil r1
  obtain rfl : args = #[v0, v1] := by cases args; simp_all
  have hr := reach_lt
  obtain ⟨l0, hv0, hli0, hlr0⟩ := rd_structs' (α := Ins) (g := insC) (q := 7) (by decide) (fun a => ⟨rfl, fun c hc => by simp [insC] at hc; rcases hc with rfl | rfl | rfl | rfl | rfl | rfl | rfl <;> rfl⟩) Tryd.underlying34 cellsJ (by rw [bytesJ]; decide) (hval 0 34 v0 rfl rfl) h0 (weights_at (j := 0) hsz rfl rfl) (fun cs n y hl hy => dec_instr cs n y hl hy)
  rw [bytesJ] at hlr0
  have hv0 : VRep (wOld (oldOf W)) (.sl 3 l0.length (insD l0)) v0 := hv0
  obtain ⟨s1, rfl, hs1⟩ := open_str Tryd.underlying9 (hval 1 9 v1 rfl rfl) h1 (weights_at (j := 1) hsz rfl rfl)
  obtain ⟨x1, rfl⟩ : ∃ x : List UInt8, s1 = ⟨x.toArray⟩ := ⟨s1.data.toList, by simp⟩
  rw [mk_size] at hs1
  have hLm : laidMet Tryd.prog listed W := by rw [← MakeChecks.laidMetH_plain _ _ _ (by kernel_rfl)]; exact hL
  have htab : Tab W := laid_tab hLm 2 rfl (g := 3) (t := 129) (e := 107) (k := .u64) (m := 20) (by kernel_rfl) (by kernel_rfl) Tryd.underlying129 Tryd.underlying107 (by kernel_rfl) (by kernel_rfl) rfl
  have hesy : (errO Tryd.prog W "strconv.ErrSyntax").isSome = true := laid_errO hLm 4 rfl (g := 1) (t := 65) (by kernel_rfl) (by kernel_rfl) Tryd.underlying65
  have herr : (errO Tryd.prog W "strconv.ErrRange").isSome = true := laid_errO hLm 3 rfl (g := 2) (t := 65) (by kernel_rfl) (by kernel_rfl) Tryd.underlying65
  obtain ⟨s', hbody⟩ := law_v (old := oldOf W) (rounds := many) (fns := fns) (prims := PR W) (n := 8) (af := c6) (xs := [.sl 3 l0.length (insD l0), .sc (.string ⟨x1.toArray⟩)]) (xsI := [v0, .string ⟨x1.toArray⟩]) (x := .bool true) (Nat.le_of_ble_eq_true rfl)
    (by simp only [VRepL]; exact ⟨_, _, rfl, hv0, _, _, rfl, .mksc rfl, rfl⟩) fun C hC hn => cback_g W l0 x1 (by omega) (by omega) hesy herr hC hn
  have hfn : fns 6 = some c6 := rfl
  have hrv : ids 0 (.bool true) = [] := rfl
  refine (law_of htab (f := 6) (af := c6) hfn (xs := [v0, .string ⟨x1.toArray⟩]) (by simp only [idsL_cons, hli0]; rfl) _ hbody hrv).mono fun e W' ⟨he, hbe⟩ => ?_
  exact ⟨_, he, law_post hW' rfl rfl (by kernel_rfl) (by kernel_rfl) Tryd.underlying4 hbe⟩
theorem cback_over : Rows.CodeBackSaid :=
  OpenClaim.holds_of_wide 6 Tryd.f6 rfl rfl rfl rfl rfl rfl rfl ⟨rfl, rfl, rfl, rfl, rfl⟩ rfl rfl rfl rfl rfl (by kernel_rfl) Tryd.func6 (by kernel_rfl)
    (of_decide_eq_true (by kernel_rfl)) (by unfold Func.isWrapper; first | (rw [if_pos (by decide +kernel)]; kernel_rfl) | (rw [if_neg (by decide +kernel)]; exact ⟨rfl, rfl⟩))
    (fun os started H enc _ => cback_lifted os started H enc)
theorem cback_holds : Rows.CodeBackCardSaid :=
  Claim7.holds_tied_plain_at .later [] [.data, .data, .data, .sentinel, .sentinel] true _ true
    cback_over (fun _ h => by cases h) (by kernel_rfl) (fun _ h => by cases h) codeBack_row_tie rfl ⟨rfl, rfl⟩ (by kernel_rfl) rfl
    (fun f fn hf hfn => by
      obtain rfl : f = 6 := Option.some.inj ((show Tryd.prog.funcNamed "raddle/raddlelaw33.CodeBack" = some 6 by kernel_rfl).symm.trans hf) |>.symm
      obtain rfl : fn = Tryd.f6 := (Option.some.inj (Tryd.func6.symm.trans hfn)).symm
      exact ⟨by kernel_rfl, fun j t ht => stand_ins (l := [34, 9]) (by kernel_rfl) (by rw [Tryd.params6] at ht; simpa using Array.mem_of_getElem? ht)⟩)
    (by kernel_rfl)
#print axioms cback_holds
end Go.Proofs.YtbefpfbidgfipaaDoor
