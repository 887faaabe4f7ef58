/- What is proved: the law CodeNames returns true for every input. Conditions: none beyond the card's own.
   Texts: M33b, M33h, M33i.
-/
import Derived.Test.YtbefpfbidgfipaaDoorPart5
import Derived.Test.YtbefpfbidgfipaaDoorCards
import Derived.Test.YtbefpfbidgfipaaDoorTie
import Derived.SizedLaws
import Derived.ChangeAt
import Derived.SevenTiedAt
import Derived.Stop.Joined
import Derived.Lay
namespace Go.Proofs.YtbefpfbidgfipaaDoor
open Go Go.Itp
set_option maxRecDepth 100000
set_option maxHeartbeats 2000000
set_option linter.unusedSimpArgs false
set_option linter.unusedVariables false
instance insP_dec (i : Ins) : Decidable (InsP i) := by unfold InsP; infer_instance
def rawN (l : List UInt8) : Int := match Lib.atoiAll l with
  | .ok v => v
  | _ => 0
theorem rawN_itoa {z : Int} (h0 : -1000000 ≤ z) (h1 : z ≤ 1000000) : rawN (Lib.itoa z) = z := by
  unfold rawN; rw [atoi_itoa' (by omega) (by omega)]
def rawSet (i : Ins) (p : UInt8 × List UInt8) : Ins :=
  if p.1 = 100 then ⟨i.op, decide (p.2 = [43]), i.bed, i.pos, i.to, i.car, i.rack⟩
  else if p.1 = 110 then ⟨i.op, i.right, if p.2.head? = some 98 then 1 else 0, rawN p.2.tail, i.to, i.car, i.rack⟩
  else if p.1 = 111 then ⟨i.op, i.right, i.bed, i.pos, rawN p.2.tail, i.car, i.rack⟩
  else if p.1 = 99 then ⟨i.op, i.right, i.bed, i.pos, i.to, rawN p.2, i.rack⟩
  else ⟨i.op, i.right, i.bed, i.pos, i.to, i.car, rawN p.2⟩
def opOf (nm : List UInt8) : Nat := ((List.range 10).find? fun k => nameI k == nm).getD 0
theorem opOf_name : ∀ a, a < 10 → opOf (nameI a) = a := by decide
def rawI (s : List UInt8) : Ins := match words 32 s with
  | [] => ins0
  | nm :: ws => ((partsI (opOf nm)).zip ws).foldl rawSet ⟨opOf nm, false, 0, 0, 0, 0, 0⟩
theorem ndl_tail (b : Nat) (z : Int) : (ndl b z).tail = Lib.itoa z := rfl
theorem ndl_head (b : Nat) (z : Int) (h : b ≤ 1) : (if (ndl b z).head? = some 98 then 1 else 0) = b := by
  rcases (by omega : b = 0 ∨ b = 1) with rfl | rfl <;> rfl
theorem rawI_text {i : Ins} (h : InsP i) : rawI (textI i) = i := by
  have hb := h.bounds
  have n1 := rawN_itoa (z := i.pos) (by omega) (by omega)
  have n2 := rawN_itoa (z := i.to) (by omega) (by omega)
  have n3 := rawN_itoa (z := i.car) (by omega) (by omega)
  have n4 := rawN_itoa (z := i.rack) (by omega) (by omega)
  have n5 := ndl_head i.bed i.pos hb.1
  unfold rawI
  rw [textI_words]
  simp only [opOf_name i.op h.op_lt.2]
  unfold InsP at h
  obtain ⟨op, right, bed, pos, to, car, rack⟩ := i
  simp only at h n1 n2 n3 n4 n5 ⊢
  have hs : ∀ r : Bool, decide ((if r = true then [43] else [45] : List UInt8) = [43]) = r := by decide
  rcases h with ⟨h1 | h1, h2, h3, h4, h5, h6, h7⟩ | ⟨h1 | h1 | h1, h2, h3, h4, h5, h6⟩ | ⟨h1, h2, h3, h4, h5, h6⟩ | ⟨h1, h2, h3, h4, h5, h6, h7⟩ | ⟨h1, h2, h3, h4, h5, h6, h7, h8⟩ | ⟨h1, h2, h3, h4, h5, h6, h7⟩
  all_goals
    subst h1
    simp [partsI, rawSet, partT, ndl_tail, n1, n2, n3, n4, n5, hs]
    try simp_all
def readC (s : List UInt8) : Option Ins := if decide (InsP (rawI s)) && textI (rawI s) == s then some (rawI s) else none
theorem readO_c (s : List UInt8) : readO s = readC s := by
  refine (accI_eq (s := s) ?_).symm
  unfold readC
  split
  · rename_i h
    simp only [Bool.and_eq_true, decide_eq_true_eq, beq_iff_eq] at h
    exact h
  · rename_i h
    intro i hi ht
    have e : rawI s = i := by rw [← ht, rawI_text hi]
    rw [e] at h
    simp [hi, ht] at h
theorem readO_bad {s : List UInt8} (h : (readC s).isNone = true) : readO s = none := by rw [readO_c]; simpa using h
theorem lineF_ok {i : Ins} (h : InsP i) : lineF i = (textI i, 0) := by unfold lineF; rw [if_pos (insOK_iff.2 h)]
def exI : Ins := ⟨3, false, 1, -2, 0, 3, 0⟩
def xfI : Ins := ⟨7, false, 0, 1, 0, 0, 0⟩
def exS : List UInt8 := [107, 110, 105, 116, 32, 45, 32, 98, 45, 50, 32, 51]
def xfS : List UInt8 := [120, 102, 101, 114, 32, 102, 49, 32, 98, 48]
def miS : List UInt8 := [107, 110, 105, 116, 32, 43, 32, 98, 50, 32, 51, 10]
def paS : List UInt8 := [105, 110, 32, 49, 10, 114, 97, 99, 107, 32, 57, 10]
theorem lineF_ex : lineF exI = (exS, 0) := by rw [lineF_ok (by decide)]; congr 1; decide +kernel
theorem lineF_xf : lineF xfI = (xfS, 0) := by rw [lineF_ok (by decide)]; congr 1; decide +kernel
theorem insOK_c {i : Ins} (h : InsP i) : [i].all insOK = true := by simp [insOK_iff.2 h]
theorem mirF_ex : mirF [exI] = ([mirI exI], 0) := by
  unfold mirF
  rw [if_neg (by decide), if_pos (insOK_c (by decide))]
  rfl
theorem textsF_ex : textsF [mirI exI] = (miS, 0) := by
  have e : tx [mirI exI] = miS := by decide +kernel
  rw [textsF_of (by decide) (insOK_c (by decide)) (by rw [e]; decide), e]
theorem in1_text : textI ⟨1, false, 0, 0, 0, 1, 0⟩ = [105, 110, 32, 49] := by decide +kernel
theorem in1_read : readO [105, 110, 32, 49] = some ⟨1, false, 0, 0, 0, 1, 0⟩ := by rw [← in1_text]; exact readO_text (by decide)
theorem parseT_ex : parseT paS = ([], 1, 12) := by
  unfold parseT
  rw [if_neg (by decide)]
  rw [show words 10 paS = [105, 110, 32, 49] :: [114, 97, 99, 107, 32, 57] :: [[]] from by decide, parseF_some (by simp) in1_read, parseF_none (by simp) (readO_bad (by decide +kernel))]
  rfl
section
variable (w : World) (n : Nat)
theorem example_p : VSpec (EN w (n + 1)) 42 [] (insV exI) ⟨[], 0, 0⟩ := by
  refine vspec_flat rfl rfl (fun _ _ => rfl) (Nat.le_of_ble_eq_true rfl) (oldVals w) rfl fun C hC h0 => ?_
  simp (disch := first | omega | assumption | exact bd (by with_unfolding_all rfl) | exact Or.inl rfl | exact Or.inl trivial | exact okL_map _ (fun _ => rfl) _ | (simp only [VVlen] <;> omega) | fail) only [O1, WA, slotsL, opdsA, Nat.reduceEqDiff, Nat.reduceLT, Nat.reduceAdd, Nat.reduceBEq, Int.reduceAdd, Int.reduceSub, Int.reduceLT, Int.reduceLE, Int.reduceEq, Int.reduceNeg, ↓reduceIte, reduceCtorEq, List.replicate, c42]
  exact weak_flat rfl h0 rfl
theorem alive_p (hes : (errO Tryd.prog w "strconv.ErrSyntax").isSome = true) (her : (errO Tryd.prog w "strconv.ErrRange").isSome = true) : VSpec (EN w (n + 8)) 20 [] (.sc (.bool true)) ⟨[], 0, 0⟩ := by
  refine vspec_flat rfl rfl (fun _ _ => rfl) (Nat.le_of_ble_eq_true rfl) (oldVals w) rfl fun C hC h0 => ?_
  have e1 := example_p w (n + 6)
  have l1 := cLine_p w (n + 3) exI
  have l2 := cLine_p w (n + 3) xfI
  have m1 := cmirror_p w (n + 1) 0 [exI] (by decide)
  have t1 := ctext_p w (n + 2) 3 [mirI exI] (by decide)
  have p1 := cparse_p w n hes her paS (by decide)
  rw [lineF_ex] at l1
  rw [lineF_xf] at l2
  rw [mirF_ex] at m1
  rw [textsF_ex] at t1
  rw [parseT_ex] at p1
  unfold insV at e1 l1 l2
  unfold exS at l1
  unfold xfS at l2
  unfold miS at t1
  unfold mirV at m1
  unfold parV at p1
  simp (disch := first | omega | assumption | exact bd (by with_unfolding_all rfl) | exact Or.inl rfl | exact Or.inl trivial | exact okL_map _ (fun _ => rfl) _ | (simp only [VVlen] <;> omega) | fail) only [O1, WA, slotsL, opdsA, Nat.reduceEqDiff, Nat.reduceLT, Nat.reduceAdd, Nat.reduceBEq, Int.reduceAdd, Int.reduceSub, Int.reduceLT, Int.reduceLE, Int.reduceEq, Int.reduceNeg, ↓reduceIte, reduceCtorEq, List.replicate, c20]
  refine callV_flat (by rw [hC]; exact e1.flat rfl rfl) ?_
  repeat' (first | (simp (disch := first | omega | assumption | exact bd (by with_unfolding_all rfl) | exact Or.inl rfl | exact Or.inl trivial | exact okL_map _ (fun _ => rfl) _ | (simp only [VVlen] <;> omega) | fail) only [O1, WA, slotsL, opdsA, Nat.reduceEqDiff, Nat.reduceLT, Nat.reduceAdd, Nat.reduceBEq, Int.reduceAdd, Int.reduceSub, Int.reduceLT, Int.reduceLE, Int.reduceEq, Int.reduceNeg, ↓reduceIte, reduceCtorEq, List.replicate]) | apply gC_drawW | ((first | apply gI_dec | apply gG_dec | apply gPG_dec | apply gI_var | apply gG_var | apply gPG_var) <;> intro _))
  refine callV_flat (by rw [hC]; exact l1.flat rfl rfl) ?_
  simp (disch := first | omega | assumption | exact bd (by with_unfolding_all rfl) | exact Or.inl rfl | exact Or.inl trivial | exact okL_map _ (fun _ => rfl) _ | (simp only [VVlen] <;> omega) | fail) only [O1, WA, slotsL, opdsA, Nat.reduceEqDiff, Nat.reduceLT, Nat.reduceAdd, Nat.reduceBEq, Int.reduceAdd, Int.reduceSub, Int.reduceLT, Int.reduceLE, Int.reduceEq, Int.reduceNeg, ↓reduceIte, reduceCtorEq, List.replicate]
  refine callV_flat (by rw [hC]; exact l2.flat rfl rfl) ?_
  simp (disch := first | omega | assumption | exact bd (by with_unfolding_all rfl) | exact Or.inl rfl | exact Or.inl trivial | exact okL_map _ (fun _ => rfl) _ | (simp only [VVlen] <;> omega) | fail) only [O1, WA, slotsL, opdsA, Nat.reduceEqDiff, Nat.reduceLT, Nat.reduceAdd, Nat.reduceBEq, Int.reduceAdd, Int.reduceSub, Int.reduceLT, Int.reduceLE, Int.reduceEq, Int.reduceNeg, ↓reduceIte, reduceCtorEq, List.replicate]
  refine callV_flat (by rw [hC]; exact e1.flat rfl rfl) ?_
  simp (disch := first | omega | assumption | exact bd (by with_unfolding_all rfl) | exact Or.inl rfl | exact Or.inl trivial | exact okL_map _ (fun _ => rfl) _ | (simp only [VVlen] <;> omega) | fail) only [O1, WA, slotsL, opdsA, Nat.reduceEqDiff, Nat.reduceLT, Nat.reduceAdd, Nat.reduceBEq, Int.reduceAdd, Int.reduceSub, Int.reduceLT, Int.reduceLE, Int.reduceEq, Int.reduceNeg, ↓reduceIte, reduceCtorEq, List.replicate, row1V_ins]
  refine callV_of (by rw [hC]; exact m1) rfl rfl rfl ?_
  simp (disch := first | omega | assumption | exact bd (by with_unfolding_all rfl) | exact Or.inl rfl | exact Or.inl trivial | exact okL_map _ (fun _ => rfl) _ | (simp only [VVlen] <;> omega) | fail) only [O1, WA, slotsL, opdsA, Nat.reduceEqDiff, Nat.reduceLT, Nat.reduceAdd, Nat.reduceBEq, Int.reduceAdd, Int.reduceSub, Int.reduceLT, Int.reduceLE, Int.reduceEq, Int.reduceNeg, ↓reduceIte, reduceCtorEq, List.replicate, vsh, vshL, shH, shO, fzSL, fzS]
  refine callV_flat (by rw [hC]; exact t1.flat rfl rfl) ?_
  simp (disch := first | omega | assumption | exact bd (by with_unfolding_all rfl) | exact Or.inl rfl | exact Or.inl trivial | exact okL_map _ (fun _ => rfl) _ | (simp only [VVlen] <;> omega) | fail) only [O1, WA, slotsL, opdsA, Nat.reduceEqDiff, Nat.reduceLT, Nat.reduceAdd, Nat.reduceBEq, Int.reduceAdd, Int.reduceSub, Int.reduceLT, Int.reduceLE, Int.reduceEq, Int.reduceNeg, ↓reduceIte, reduceCtorEq, List.replicate]
  refine callV_fin (by rw [hC]; exact p1) rfl rfl (fun _ => rfl) ?_
  simp (disch := first | omega | assumption | exact bd (by with_unfolding_all rfl) | exact Or.inl rfl | exact Or.inl trivial | exact okL_map _ (fun _ => rfl) _ | (simp only [VVlen] <;> omega) | fail) only [O1, WA, slotsL, opdsA, Nat.reduceEqDiff, Nat.reduceLT, Nat.reduceAdd, Nat.reduceBEq, Int.reduceAdd, Int.reduceSub, Int.reduceLT, Int.reduceLE, Int.reduceEq, Int.reduceNeg, ↓reduceIte, reduceCtorEq, List.replicate]
  exact weak_flat rfl h0 rfl
end
end Go.Proofs.YtbefpfbidgfipaaDoor
namespace Go.Proofs.YtbefpfbidgfipaaDoor
open Go Go.Itp
set_option maxRecDepth 100000
set_option maxHeartbeats 400000
set_option linter.unusedSimpArgs false
set_option linter.unusedVariables false
def nmI : List Ins := [⟨1, false, 0, 0, 0, 1, 0⟩, ⟨2, false, 0, 0, 0, 6, 0⟩, ⟨3, true, 0, 0, 0, 1, 0⟩, ⟨4, false, 0, 100, 0, 2, 0⟩, ⟨5, true, 1, -100, 0, 3, 0⟩, ⟨6, false, 0, 3, 4, 1, 0⟩, ⟨6, true, 1, -1, 0, 1, 0⟩, ⟨7, false, 1, 3, -2, 0, 0⟩, ⟨8, false, 0, 0, 0, 0, -8⟩, ⟨8, false, 0, 0, 0, 0, 0⟩, ⟨9, false, 1, 7, 0, 0, 0⟩]
def nmT : List (List UInt8) := [[105, 110, 32, 49], [111, 117, 116, 32, 54], [107, 110, 105, 116, 32, 43, 32, 102, 48, 32, 49], [116, 117, 99, 107, 32, 45, 32, 102, 49, 48, 48, 32, 50], [109, 105, 115, 115, 32, 43, 32, 98, 45, 49, 48, 48, 32, 51], [115, 112, 108, 105, 116, 32, 45, 32, 102, 51, 32, 98, 52, 32, 49], [115, 112, 108, 105, 116, 32, 43, 32, 98, 45, 49, 32, 102, 48, 32, 49], [120, 102, 101, 114, 32, 98, 51, 32, 102, 45, 50], [114, 97, 99, 107, 32, 45, 56], [114, 97, 99, 107, 32, 48], [100, 114, 111, 112, 32, 98, 55]]
def bdT : List (List UInt8) := [[], [105, 110], [105, 110, 32, 48], [105, 110, 32, 55], [105, 110, 32, 48, 49], [105, 110, 32, 49, 32], [32, 105, 110, 32, 49], [105, 110, 32, 32, 49], [107, 110, 105, 116, 32, 102, 48, 32, 49], [107, 110, 105, 116, 32, 43, 32, 48, 32, 49], [107, 110, 105, 116, 32, 43, 32, 102, 48], [107, 110, 105, 116, 32, 42, 32, 102, 48, 32, 49], [107, 110, 105, 116, 32, 43, 32, 102, 48, 32, 49, 32, 49], [107, 110, 105, 116, 32, 43, 32, 103, 48, 32, 49], [107, 110, 105, 116, 32, 43, 32, 102, 32, 49], [107, 110, 105, 116, 32, 43, 32, 102, 45, 48, 32, 49], [107, 110, 105, 116, 32, 43, 32, 102, 49, 48, 49, 32, 49], [120, 102, 101, 114, 32, 102, 48, 32, 102, 49], [120, 102, 101, 114, 32, 102, 48], [115, 112, 108, 105, 116, 32, 43, 32, 102, 48, 32, 102, 49, 32, 49], [114, 97, 99, 107, 32, 57], [114, 97, 99, 107, 32, 43, 49], [114, 97, 99, 107, 32, 45, 45, 49], [100, 114, 111, 112, 32, 49], [68, 114, 111, 112, 32, 102, 49], [109, 111, 118, 101, 32, 102, 49, 32, 98, 49], [114, 97, 99, 107, 32, 48, 48, 48, 48, 48, 48, 48, 48]]
theorem nmI_len : nmI.length = 11 := (rfl)
theorem nmI_ok : ∀ i, i < 11 → InsP nmI[i]! := by decide
theorem nmI_text : ∀ i, i < 11 → textI nmI[i]! = nmT[i]! := by decide +kernel
theorem nmI_read (i : Nat) (h : i < 11) : readO nmT[i]! = some nmI[i]! := by rw [← nmI_text i h]; exact readO_text (nmI_ok i h)
theorem nmI_all : nmI.all insOK = true := by
  refine List.all_eq_true.2 fun x hx => insOK_iff.2 ?_
  obtain ⟨j, hj, rfl⟩ := List.mem_iff_getElem.1 hx
  rw [← getElem!_pos nmI j hj]
  exact nmI_ok j hj
theorem bdT_read : ∀ i, i < 27 → (readC bdT[i]!).isNone = true := by decide +kernel
theorem nmT_len : ∀ i, i < 11 → nmT[i]!.length ≤ 20 := by decide
theorem bdT_len : ∀ i, i < 27 → bdT[i]!.length ≤ 20 := by decide
theorem nmRow (nx t : Nat) : mkRowV nx t 1 11 [.string ⟨#[]⟩] [(0, 1, .sc (.string ⟨#[105, 110, 32, 49]⟩)), (1, 1, .sc (.string ⟨#[111, 117, 116, 32, 54]⟩)), (2, 1, .sc (.string ⟨#[107, 110, 105, 116, 32, 43, 32, 102, 48, 32, 49]⟩)), (3, 1, .sc (.string ⟨#[116, 117, 99, 107, 32, 45, 32, 102, 49, 48, 48, 32, 50]⟩)), (4, 1, .sc (.string ⟨#[109, 105, 115, 115, 32, 43, 32, 98, 45, 49, 48, 48, 32, 51]⟩)), (5, 1, .sc (.string ⟨#[115, 112, 108, 105, 116, 32, 45, 32, 102, 51, 32, 98, 52, 32, 49]⟩)), (6, 1, .sc (.string ⟨#[115, 112, 108, 105, 116, 32, 43, 32, 98, 45, 49, 32, 102, 48, 32, 49]⟩)), (7, 1, .sc (.string ⟨#[120, 102, 101, 114, 32, 98, 51, 32, 102, 45, 50]⟩)), (8, 1, .sc (.string ⟨#[114, 97, 99, 107, 32, 45, 56]⟩)), (9, 1, .sc (.string ⟨#[114, 97, 99, 107, 32, 48]⟩)), (10, 1, .sc (.string ⟨#[100, 114, 111, 112, 32, 98, 55]⟩))] = some (.ref nx 0 11 11, some (.row t 1 false false (nmT.map sD)), []) := (rfl)
theorem bdRow (nx t : Nat) : mkRowV nx t 1 27 [.string ⟨#[]⟩] [(0, 1, .sc (.string ⟨#[]⟩)), (1, 1, .sc (.string ⟨#[105, 110]⟩)), (2, 1, .sc (.string ⟨#[105, 110, 32, 48]⟩)), (3, 1, .sc (.string ⟨#[105, 110, 32, 55]⟩)), (4, 1, .sc (.string ⟨#[105, 110, 32, 48, 49]⟩)), (5, 1, .sc (.string ⟨#[105, 110, 32, 49, 32]⟩)), (6, 1, .sc (.string ⟨#[32, 105, 110, 32, 49]⟩)), (7, 1, .sc (.string ⟨#[105, 110, 32, 32, 49]⟩)), (8, 1, .sc (.string ⟨#[107, 110, 105, 116, 32, 102, 48, 32, 49]⟩)), (9, 1, .sc (.string ⟨#[107, 110, 105, 116, 32, 43, 32, 48, 32, 49]⟩)), (10, 1, .sc (.string ⟨#[107, 110, 105, 116, 32, 43, 32, 102, 48]⟩)), (11, 1, .sc (.string ⟨#[107, 110, 105, 116, 32, 42, 32, 102, 48, 32, 49]⟩)), (12, 1, .sc (.string ⟨#[107, 110, 105, 116, 32, 43, 32, 102, 48, 32, 49, 32, 49]⟩)), (13, 1, .sc (.string ⟨#[107, 110, 105, 116, 32, 43, 32, 103, 48, 32, 49]⟩)), (14, 1, .sc (.string ⟨#[107, 110, 105, 116, 32, 43, 32, 102, 32, 49]⟩)), (15, 1, .sc (.string ⟨#[107, 110, 105, 116, 32, 43, 32, 102, 45, 48, 32, 49]⟩)), (16, 1, .sc (.string ⟨#[107, 110, 105, 116, 32, 43, 32, 102, 49, 48, 49, 32, 49]⟩)), (17, 1, .sc (.string ⟨#[120, 102, 101, 114, 32, 102, 48, 32, 102, 49]⟩)), (18, 1, .sc (.string ⟨#[120, 102, 101, 114, 32, 102, 48]⟩)), (19, 1, .sc (.string ⟨#[115, 112, 108, 105, 116, 32, 43, 32, 102, 48, 32, 102, 49, 32, 49]⟩)), (20, 1, .sc (.string ⟨#[114, 97, 99, 107, 32, 57]⟩)), (21, 1, .sc (.string ⟨#[114, 97, 99, 107, 32, 43, 49]⟩)), (22, 1, .sc (.string ⟨#[114, 97, 99, 107, 32, 45, 45, 49]⟩)), (23, 1, .sc (.string ⟨#[100, 114, 111, 112, 32, 49]⟩)), (24, 1, .sc (.string ⟨#[68, 114, 111, 112, 32, 102, 49]⟩)), (25, 1, .sc (.string ⟨#[109, 111, 118, 101, 32, 102, 49, 32, 98, 49]⟩)), (26, 1, .sc (.string ⟨#[114, 97, 99, 107, 32, 48, 48, 48, 48, 48, 48, 48, 48]⟩))] = some (.ref nx 0 27 27, some (.row t 1 false false (bdT.map sD)), []) := (rfl)
theorem nm_ld (k : Nat) (h : k < 11) : dload (nmT.map sD) k none = some (strV nmT[k]!) := by
  have : ∀ j, j < 11 → dload (nmT.map sD) j none = some (strV nmT[j]!) := by
    intro j hj
    rcases (by omega : j = 0 ∨ j = 1 ∨ j = 2 ∨ j = 3 ∨ j = 4 ∨ j = 5 ∨ j = 6 ∨ j = 7 ∨ j = 8 ∨ j = 9 ∨ j = 10) with rfl | rfl | rfl | rfl | rfl | rfl | rfl | rfl | rfl | rfl | rfl <;> rfl
  exact this k h
theorem bd_ld (k : Nat) (h : k < 27) : dload (bdT.map sD) k none = some (strV bdT[k]!) := by
  rcases (by omega : k = 0 ∨ k = 1 ∨ k = 2 ∨ k = 3 ∨ k = 4 ∨ k = 5 ∨ k = 6 ∨ k = 7 ∨ k = 8 ∨ k = 9 ∨ k = 10 ∨ k = 11 ∨ k = 12 ∨ k = 13 ∨ k = 14 ∨ k = 15 ∨ k = 16 ∨ k = 17 ∨ k = 18 ∨ k = 19 ∨ k = 20 ∨ k = 21 ∨ k = 22 ∨ k = 23 ∨ k = 24 ∨ k = 25 ∨ k = 26) with rfl | rfl | rfl | rfl | rfl | rfl | rfl | rfl | rfl | rfl | rfl | rfl | rfl | rfl | rfl | rfl | rfl | rfl | rfl | rfl | rfl | rfl | rfl | rfl | rfl | rfl | rfl <;> rfl
attribute [local irreducible] nmI nmT bdT
theorem nm_tx (k : Nat) (h : k < 11) : tx (nmI.take (k + 1)) = tx (nmI.take k) ++ (nmT[k]! ++ [10]) := by
  rw [tx_take nmI k (by rw [nmI_len]; exact h), nmI_text k h]
theorem nm_txlen (k : Nat) : (tx (nmI.take k)).length ≤ 451 := by
  have h1 := tx_len (L := nmI.take k) (List.all_eq_true.2 fun x hx => List.all_eq_true.1 nmI_all x (List.mem_of_mem_take hx))
  have h2 : (nmI.take k).length ≤ 11 := by rw [List.length_take, nmI_len]; omega
  omega
def spI : Ins := ⟨6, false, 0, -100, -100, 1, 0⟩
theorem spI_ok : insOK spI = true := insOK_iff.2 (by decide)
theorem spI_len : (textI spI).length = 21 := by decide +kernel
theorem rep_all (m : Nat) : (List.replicate m spI).all insOK = true := by
  refine List.all_eq_true.2 fun x hx => ?_
  rw [List.eq_of_mem_replicate hx]; exact spI_ok
theorem rep_tx (m : Nat) : (tx (List.replicate m spI)).length = m * 22 := by
  induction m with
  | zero => rfl
  | succ m ih =>
    have e : tx (List.replicate (m + 1) spI) = textI spI ++ [10] ++ tx (List.replicate m spI) := by simp [tx, List.replicate_succ]
    rw [e, List.length_append, List.length_append, ih, spI_len]; simp; omega
theorem rep_text (m : Nat) (h : m ≤ 1818) : textsF (List.replicate m spI) = (tx (List.replicate m spI), 0) :=
  textsF_of (by simp; omega) (rep_all m) (by rw [rep_tx]; omega)
theorem rep_many : textsF (List.replicate 1819 spI) = ([], 4) := by
  unfold textsF
  rw [if_neg (by rw [List.length_replicate]; decide), if_pos (rep_all 1819), if_pos (by rw [rep_tx]; decide)]
theorem rep_parse : parseT (tx (List.replicate 1818 spI)) = (List.replicate 1818 spI, 0, 0) :=
  parseT_tx (by rw [List.length_replicate]; decide) (rep_all _) (by rw [rep_tx]; decide)
theorem rep_parse4 : parseT (tx (List.replicate 1818 spI) ++ [32, 32, 32, 32]) = ([], 1818, 12) := by
  unfold parseT
  rw [words_tx, words_free (by decide), if_neg (by rw [List.length_append, rep_tx, List.length_append, List.length_map, List.length_replicate]; decide), parseF_tx _ _ _ (by simp) (rep_all _), List.nil_append, parseF_one _ _ (by decide), List.length_replicate]
  rfl
theorem rep_parse5 : parseT (tx (List.replicate 1818 spI) ++ [32, 32, 32, 32, 32]) = ([], 0, 4) := by
  unfold parseT
  rw [if_pos (.inl (by rw [List.length_append, rep_tx]; decide))]
theorem zD_ins (m : Nat) : insD (List.replicate m ins0) = zD m := by
  induction m with
  | zero => rfl
  | succ m ih =>
    have e : insD (List.replicate (m + 1) ins0) = scD z7 ++ insD (List.replicate m ins0) := by simp [insD, List.replicate_succ]; rfl
    rw [e, ih]
    simp [zD, rep, scD]
theorem ins0_bad : insOK ins0 = false := by
  rw [← Bool.not_eq_true]; exact fun h => absurd (insOK_iff.1 h) (by decide)
theorem lineF_0 : lineF ins0 = ([], 8) := by unfold lineF; rw [ins0_bad]; rfl
theorem parse_in1 : parseT [105, 110, 32, 49] = ([], 0, 12) := by
  unfold parseT
  rw [if_neg (by decide), show words 10 [105, 110, 32, 49] = [[105, 110, 32, 49]] from by decide, parseF_one _ _ (by decide)]
  rfl
theorem parse_in2 : parseT [105, 110, 32, 49, 10, 10] = ([], 1, 12) := by
  unfold parseT
  rw [if_neg (by decide), show words 10 [105, 110, 32, 49, 10, 10] = [105, 110, 32, 49] :: [] :: [[]] from by decide, parseF_some (by simp) in1_read, parseF_none (by simp) (readO_bad (by decide +kernel))]
  rfl
theorem parse_none : parseT [] = ([], 0, 0) := by
  unfold parseT
  rw [if_neg (by decide), words_nil, parseF_nil]
theorem textsF_0 : textsF [ins0] = ([], 8) := by
  unfold textsF
  rw [if_neg (by decide), if_neg (by simp [ins0_bad])]
theorem mirF_0 : mirF [ins0] = ([], 8) := by
  unfold mirF
  rw [if_neg (by decide), if_neg (by simp [ins0_bad])]
theorem textsF_many : textsF (List.replicate 2001 ins0) = ([], 4) := by
  unfold textsF
  rw [if_pos (by rw [List.length_replicate]; decide)]
theorem mirF_many : mirF (List.replicate 2001 ins0) = ([], 4) := by
  unfold mirF
  rw [if_pos (by rw [List.length_replicate]; decide)]
theorem mkS_ins (nx t c : Nat) (z : Int) (hz : z = c) (hc : c ≤ 1000000) : mkSliceV nx t 7 40 z7 (.sc (.int .i64 z)) (.sc (.int .i64 z)) = some (.ref nx 0 c c, some (.row t 7 false false (zD c)), []) := by
  subst hz
  simp only [mkSliceV]
  rw [if_pos ⟨by omega, by omega, by unfold room; omega, by unfold room; omega, by rw [Int.toNat_natCast]; exact zD_ok c⟩]
  rfl
theorem mk2001 (nx t : Nat) : mkSliceV nx t 7 40 z7 (.sc (.int .i64 2001)) (.sc (.int .i64 2001)) = some (.ref nx 0 2001 2001, some (.row t 7 false false (zD 2001)), []) := mkS_ins nx t 2001 2001 rfl (by decide)
theorem mk2000 (nx t : Nat) : mkSliceV nx t 7 40 z7 (.sc (.int .i64 2000)) (.sc (.int .i64 2000)) = some (.ref nx 0 2000 2000, some (.row t 7 false false (zD 2000)), []) := mkS_ins nx t 2000 2000 rfl (by decide)
theorem mk1 (nx t : Nat) : mkSliceV nx t 7 40 z7 (.sc (.int .i64 1)) (.sc (.int .i64 1)) = some (.ref nx 0 1 1, some (.row t 7 false false (zD 1)), []) := mkS_ins nx t 1 1 rfl (by decide)
theorem snap_ref7 {H : VHp} {o c t n : Nat} {g z : Bool} {l : List D} (h : aget H o = some (.row t 7 g z l)) (hl : n * 7 ≤ l.length) : snapV H (.ref o 0 n c) = some (.sl 0 n (l.take (n * 7))) := by
  simp only [snapV, toD, h, Nat.zero_add, List.drop_zero]
  rw [if_pos hl]
  rfl
theorem snapL_1 {H : VHp} {v v' : V} (h : snapV H v = some v') : snapL H [v] = some [v'] := by simp only [snapL, h, Option.bind_some, Option.map_some]
theorem zD_full (m : Nat) : (zD m).take (m * 7) = zD m := List.take_of_length_le (by rw [zD_len]; exact Nat.le_refl _)
theorem stO_row7 (st : VSt) (o k t : Nat) (g : Bool) (l : List D) (a b c d e f h : Value) (hro : st.ro ≤ o) (hk : k + 7 ≤ l.length) :
    stO st 7 o k (.agg [.sc a, .sc b, .sc c, .sc d, .sc e, .sc f, .sc h]) (some (.row t 7 g false l)) = some (.tup [], ⟨aset st.own o (.row t 7 g false (l.take k ++ [.sc a, .sc b, .sc c, .sc d, .sc e, .sc f, .sc h] ++ l.drop (k + 7))), st.next, st.ro⟩) := by
  have hv : vcells (.agg [.sc a, .sc b, .sc c, .sc d, .sc e, .sc f, .sc h]) = some [.sc a, .sc b, .sc c, .sc d, .sc e, .sc f, .sc h] := rfl
  simp only [stO, hv, Option.bind_some]
  rw [if_pos (show Nat.beq _ 7 = true from rfl), if_neg (by simp only [Bool.not_eq_true, bleF]; exact hro)]
  simp only [fzL, fzV, List.append_nil, elemB, rowsB, Bool.not_true, Bool.or_false]
  rw [if_neg (by simp)]
  simp only [toDL, toD, Option.bind_some, Option.map_some]
  rw [putL_mid _ _ _ (by simpa using hk), frozA_nil]
  rfl
theorem partD_front' (L : List Ins) (a : Nat) (h : a ≤ L.length) : (insD L).take (a * 7) = insD (L.take a) := by
  have h1 : (insD (L.take a)).length = a * 7 := by rw [insD_len, List.length_take]; congr 1; omega
  have h2 : insD L = insD (L.take a) ++ insD (L.drop a) := by
    have : insD (L.take a ++ L.drop a) = insD (L.take a) ++ insD (L.drop a) := by simp only [insD, List.flatMap_append]
    rw [← this, List.take_append_drop]
  rw [h2, List.take_left' h1]
theorem zD_0 : zD (2000 - 2000) = [] := rfl
theorem sl1818 : vslc 7 none (some (.int .i64 1818)) none (.ref 0 0 2000 2000) = some (.ref 0 0 1818 2000) := (rfl)
theorem sl1819 : vslc 7 none (some (.int .i64 1819)) none (.ref 0 0 2000 2000) = some (.ref 0 0 1819 2000) := (rfl)
theorem rep0 : insD (List.replicate 0 spI) = [] := rfl
theorem resI_none : resI none = .tup [.agg [.sc (.int .u8 0), .sc (.bool false), .sc (.int .u8 0), .sc (.int .i64 0), .sc (.int .i64 0), .sc (.int .i64 0), .sc (.int .i64 0)], .sc (.int .i64 12)] := rfl
theorem insV_0 : insV ins0 = .agg [.sc (.int .u8 0), .sc (.bool false), .sc (.int .u8 0), .sc (.int .i64 0), .sc (.int .i64 0), .sc (.int .i64 0), .sc (.int .i64 0)] := rfl
attribute [local irreducible] zD insD
section
variable (w : World) (n : Nat)
theorem long_p (hes : (errO Tryd.prog w "strconv.ErrSyntax").isSome = true) (her : (errO Tryd.prog w "strconv.ErrRange").isSome = true) : VSpec (EN w (n + 8)) 21 [] (.sc (.bool true)) ⟨[], 0, 0⟩ := by
  refine vspec_flat rfl rfl (fun _ _ => rfl) (Nat.le_of_ble_eq_true rfl) (oldVals w) rfl fun C hC h0 => ?_
  have hrn : C.E.rounds = many := by rw [hC, callP_rounds]
  repeat' (first | (simp (disch := first | omega | assumption | exact bd (by with_unfolding_all rfl) | exact Or.inl rfl | exact Or.inl trivial | exact okL_map _ (fun _ => rfl) _ | (simp only [VVlen] <;> omega) | fail) only [O1, WA, slotsL, opdsA, Nat.reduceEqDiff, Nat.reduceLT, Nat.reduceAdd, Nat.reduceBEq, Int.reduceAdd, Int.reduceSub, Int.reduceLT, Int.reduceLE, Int.reduceEq, Int.reduceNeg, ↓reduceIte, reduceCtorEq, List.replicate, c21, ↓mk2000]) | apply gC_drawW | ((first | apply gI_dec | apply gG_dec | apply gPG_dec | apply gI_var | apply gG_var | apply gPG_var) <;> intro _))
  refine g_while (fun m fr st => ∃ (k : Nat), m = 2000 - k ∧ k ≤ 2000 ∧ fr = [(1, .ref 0 0 2000 2000), (2, .sc (.int .i64 k))] ∧ st = ⟨[(0, .row 23 7 false false (insD (List.replicate k spI) ++ zD (2000 - k)))], 1, 0⟩) 2000 ?_ ⟨_, _, .refl _ _, 0, by omega, Nat.zero_le _, rfl, by rw [rep0]; rfl⟩ ?_
  · rw [hrn]; unfold many; omega
  rintro m fr st ⟨k, rfl, hk, rfl, rfl⟩
  have hA : (insD (List.replicate k spI)).length = k * 7 := by rw [insD_len, List.length_replicate]
  by_cases hlt : k < 2000
  · have hput := zD_put (new := (insC spI).map D.sc) hA rfl hlt
    have hsucc : insD (List.replicate (k + 1) spI) = insD (List.replicate k spI) ++ (insC spI).map D.sc := by
      rw [List.replicate_succ', insD_snoc]; rfl
    generalize insD (List.replicate k spI) = A at *
    have hl2 : (A ++ zD (2000 - k)).length = 14000 := by rw [List.length_append, hA, zD_len]; omega
    repeat' (first | (simp (disch := first | omega | assumption | exact bd (by with_unfolding_all rfl) | exact Or.inl rfl | exact Or.inl trivial | exact okL_map _ (fun _ => rfl) _ | (simp only [VVlen] <;> omega) | fail) only [O1, WA, slotsL, opdsA, Nat.reduceEqDiff, Nat.reduceLT, Nat.reduceAdd, Nat.reduceBEq, Int.reduceAdd, Int.reduceSub, Int.reduceLT, Int.reduceLE, Int.reduceEq, Int.reduceNeg, ↓reduceIte, reduceCtorEq, List.replicate, c21l0, stO_row7]) | apply gC_drawW | ((first | apply gI_dec | apply gG_dec | apply gPG_dec | apply gI_var | apply gG_var | apply gPG_var) <;> intro _))
    all_goals try (exfalso; omega)
    refine ⟨2000 - (k + 1), _, _, by omega, .refl _ _, k + 1, rfl, by omega, rfl, ?_⟩
    rw [hsucc, ← hput]
    rfl
  · have : k = 2000 := by omega
    subst this
    have hz : insD (List.replicate 2000 spI) ++ zD (2000 - 2000) = insD (List.replicate 2000 spI) := by rw [zD_0, List.append_nil]
    rw [hz]
    have ht : ∀ m, m ≤ 2000 → (insD (List.replicate 2000 spI)).take (m * 7) = insD (List.replicate m spI) := fun m hm => by
      have := partD_front' (List.replicate 2000 spI) m (by rw [List.length_replicate]; exact hm)
      rw [this, List.take_replicate, Nat.min_eq_left hm]
    have t1 := ctext_p w (n + 2) 0 (List.replicate 1818 spI) (by rw [List.length_replicate]; decide)
    have t2 := ctext_p w (n + 2) 0 (List.replicate 1819 spI) (by rw [List.length_replicate]; decide)
    rw [rep_text _ (Nat.le_refl _), List.length_replicate, ← ht 1818 (by decide)] at t1
    rw [rep_many, List.length_replicate, ← ht 1819 (by decide)] at t2
    have q1 := cparse_p w n hes her (tx (List.replicate 1818 spI)) (by rw [rep_tx]; decide)
    have q2 := cparse_p w n hes her (tx (List.replicate 1818 spI) ++ [32, 32, 32, 32]) (by rw [List.length_append, rep_tx]; decide)
    have q3 := cparse_p w n hes her (tx (List.replicate 1818 spI) ++ [32, 32, 32, 32, 32]) (by rw [List.length_append, rep_tx]; decide)
    rw [rep_parse] at q1
    rw [rep_parse4] at q2
    rw [rep_parse5] at q3
    unfold parV at q1 q2 q3
    rw [List.length_replicate] at q1
    have hF : (tx (List.replicate 1818 spI)).length = 39996 := rep_tx 1818
    have hl3 : (insD (List.replicate 2000 spI)).length = 14000 := by rw [insD_len, List.length_replicate]
    generalize tx (List.replicate 1818 spI) = F at *
    generalize insD (List.replicate 2000 spI) = N at *
    generalize insD (List.replicate 1818 spI) = N2 at *
    have hFz := mk_size F
    repeat' (first | (simp (disch := first | omega | assumption | exact bd (by with_unfolding_all rfl) | exact Or.inl rfl | exact Or.inl trivial | exact okL_map _ (fun _ => rfl) _ | (simp only [VVlen] <;> omega) | fail) only [O1, WA, slotsL, opdsA, Nat.reduceEqDiff, Nat.reduceLT, Nat.reduceAdd, Nat.reduceBEq, Int.reduceAdd, Int.reduceSub, Int.reduceLT, Int.reduceLE, Int.reduceEq, Int.reduceNeg, ↓reduceIte, reduceCtorEq, List.replicate, c21l0, sl1818]) | apply gC_drawW | ((first | apply gI_dec | apply gG_dec | apply gPG_dec | apply gI_var | apply gG_var | apply gPG_var) <;> intro _))
    all_goals try (exfalso; omega)
    refine callV_of (by rw [hC]; exact t1) (snapL_1 (snap_ref7 rfl (by rw [hl3]; decide))) rfl rfl ?_
    repeat' (first | (simp (disch := first | omega | assumption | exact bd (by with_unfolding_all rfl) | exact Or.inl rfl | exact Or.inl trivial | exact okL_map _ (fun _ => rfl) _ | (simp only [VVlen] <;> omega) | fail) only [O1, WA, slotsL, opdsA, Nat.reduceEqDiff, Nat.reduceLT, Nat.reduceAdd, Nat.reduceBEq, Int.reduceAdd, Int.reduceSub, Int.reduceLT, Int.reduceLE, Int.reduceEq, Int.reduceNeg, ↓reduceIte, reduceCtorEq, List.replicate, vsh, vshL, shH, shO, fzSL, fzS, sl1819]) | apply gC_drawW | ((first | apply gI_dec | apply gG_dec | apply gPG_dec | apply gI_var | apply gG_var | apply gPG_var) <;> intro _))
    refine callV_of (by rw [hC]; exact t2) (snapL_1 (snap_ref7 rfl (by rw [hl3]; decide))) rfl rfl ?_
    repeat' (first | (simp (disch := first | omega | assumption | exact bd (by with_unfolding_all rfl) | exact Or.inl rfl | exact Or.inl trivial | exact okL_map _ (fun _ => rfl) _ | (simp only [VVlen] <;> omega) | fail) only [O1, WA, slotsL, opdsA, Nat.reduceEqDiff, Nat.reduceLT, Nat.reduceAdd, Nat.reduceBEq, Int.reduceAdd, Int.reduceSub, Int.reduceLT, Int.reduceLE, Int.reduceEq, Int.reduceNeg, ↓reduceIte, reduceCtorEq, List.replicate, vsh, vshL, shH, shO, fzSL, fzS]) | apply gC_drawW | ((first | apply gI_dec | apply gG_dec | apply gPG_dec | apply gI_var | apply gG_var | apply gPG_var) <;> intro _))
    refine callV_fin (by rw [hC]; exact q1) rfl rfl (fun _ => rfl) ?_
    repeat' (first | (simp (disch := first | omega | assumption | exact bd (by with_unfolding_all rfl) | exact Or.inl rfl | exact Or.inl trivial | exact okL_map _ (fun _ => rfl) _ | (simp only [VVlen] <;> omega) | fail) only [O1, WA, slotsL, opdsA, Nat.reduceEqDiff, Nat.reduceLT, Nat.reduceAdd, Nat.reduceBEq, Int.reduceAdd, Int.reduceSub, Int.reduceLT, Int.reduceLE, Int.reduceEq, Int.reduceNeg, ↓reduceIte, reduceCtorEq, List.replicate, cat_l]) | apply gC_drawW | ((first | apply gI_dec | apply gG_dec | apply gPG_dec | apply gI_var | apply gG_var | apply gPG_var) <;> intro _))
    refine callV_fin (by rw [hC]; exact q2) rfl rfl (fun _ => rfl) ?_
    repeat' (first | (simp (disch := first | omega | assumption | exact bd (by with_unfolding_all rfl) | exact Or.inl rfl | exact Or.inl trivial | exact okL_map _ (fun _ => rfl) _ | (simp only [VVlen] <;> omega) | fail) only [O1, WA, slotsL, opdsA, Nat.reduceEqDiff, Nat.reduceLT, Nat.reduceAdd, Nat.reduceBEq, Int.reduceAdd, Int.reduceSub, Int.reduceLT, Int.reduceLE, Int.reduceEq, Int.reduceNeg, ↓reduceIte, reduceCtorEq, List.replicate, cat_l]) | apply gC_drawW | ((first | apply gI_dec | apply gG_dec | apply gPG_dec | apply gI_var | apply gG_var | apply gPG_var) <;> intro _))
    refine callV_fin (by rw [hC]; exact q3) rfl rfl (fun _ => rfl) ?_
    repeat' (first | (simp (disch := first | omega | assumption | exact bd (by with_unfolding_all rfl) | exact Or.inl rfl | exact Or.inl trivial | exact okL_map _ (fun _ => rfl) _ | (simp only [VVlen] <;> omega) | fail) only [O1, WA, slotsL, opdsA, Nat.reduceEqDiff, Nat.reduceLT, Nat.reduceAdd, Nat.reduceBEq, Int.reduceAdd, Int.reduceSub, Int.reduceLT, Int.reduceLE, Int.reduceEq, Int.reduceNeg, ↓reduceIte, reduceCtorEq, List.replicate, hFz, hF]) | apply gC_drawW | ((first | apply gI_dec | apply gG_dec | apply gPG_dec | apply gI_var | apply gG_var | apply gPG_var) <;> intro _))
    exact weak_flat rfl h0 rfl
theorem cnames_p (hes : (errO Tryd.prog w "strconv.ErrSyntax").isSome = true) (her : (errO Tryd.prog w "strconv.ErrRange").isSome = true) {C : Ctx} (hC : C.E = EN w 8) (h0 : C.w0.nx = 0) :
    gC C c5.code [] (vargs 0 []) ⟨[], 0, 0⟩ (RetV C c5.res (.sc (.bool true)) ⟨[], 0, 0⟩) := by
  have hrn : C.E.rounds = many := by rw [hC, callP_rounds]
  repeat' (first | (simp (disch := first | omega | assumption | exact bd (by with_unfolding_all rfl) | exact Or.inl rfl | exact Or.inl trivial | exact okL_map _ (fun _ => rfl) _ | (simp only [VVlen] <;> omega) | fail) only [O1, WA, slotsL, opdsA, Nat.reduceEqDiff, Nat.reduceLT, Nat.reduceAdd, Nat.reduceBEq, Int.reduceAdd, Int.reduceSub, Int.reduceLT, Int.reduceLE, Int.reduceEq, Int.reduceNeg, ↓reduceIte, reduceCtorEq, List.replicate, c5, ↓nmRow]) | apply gC_drawW | ((first | apply gI_dec | apply gG_dec | apply gPG_dec | apply gI_var | apply gG_var | apply gPG_var) <;> intro _))
  refine g_while (fun m fr st => ∃ (k : Nat), m = 11 - k ∧ k ≤ 11 ∧ fr = [(1, .ref 0 0 11 11), (2, strV (tx (nmI.take k))), (3, .sc (.int .i64 k))] ∧ st = ⟨[(0, .row 9 1 false false (nmT.map sD))], 1, 0⟩) 11 ?_ ⟨_, _, .refl _ _, 0, by omega, Nat.zero_le _, rfl, rfl⟩ ?_
  · rw [hrn]; unfold many; omega
  rintro m fr st ⟨k, rfl, hk, rfl, rfl⟩
  by_cases hlt : k < 11
  · have hld := nm_ld k hlt
    have htx := nm_tx k hlt
    have htl := nm_txlen k
    have hnl := nmT_len k hlt
    have hrd := read_p w 2 hes her nmT[k]! (by omega)
    rw [nmI_read k hlt] at hrd
    have hln := cLine_p w 4 nmI[k]!
    rw [lineF_ok (nmI_ok k hlt), nmI_text k hlt] at hln
    generalize nmI[k]! = X at *
    generalize nmT[k]! = T at *
    generalize tx (nmI.take k) = F at *
    obtain ⟨xo, xr, xb, xp, xt, xc, xk⟩ := X
    unfold resI insV at hrd
    unfold insV at hln
    repeat' (first | (simp (disch := first | omega | assumption | exact bd (by with_unfolding_all rfl) | exact Or.inl rfl | exact Or.inl trivial | exact okL_map _ (fun _ => rfl) _ | (simp only [VVlen] <;> omega) | fail) only [O1, WA, slotsL, opdsA, Nat.reduceEqDiff, Nat.reduceLT, Nat.reduceAdd, Nat.reduceBEq, Int.reduceAdd, Int.reduceSub, Int.reduceLT, Int.reduceLE, Int.reduceEq, Int.reduceNeg, ↓reduceIte, reduceCtorEq, List.replicate, c5l1, hld]) | apply gC_drawW | ((first | apply gI_dec | apply gG_dec | apply gPG_dec | apply gI_var | apply gG_var | apply gPG_var) <;> intro _))
    all_goals try (exfalso; omega)
    refine callV_flat (by rw [hC]; exact hrd.flat rfl rfl) ?_
    repeat' (first | (simp (disch := first | omega | assumption | exact bd (by with_unfolding_all rfl) | exact Or.inl rfl | exact Or.inl trivial | exact okL_map _ (fun _ => rfl) _ | (simp only [VVlen] <;> omega) | fail) only [O1, WA, slotsL, opdsA, Nat.reduceEqDiff, Nat.reduceLT, Nat.reduceAdd, Nat.reduceBEq, Int.reduceAdd, Int.reduceSub, Int.reduceLT, Int.reduceLE, Int.reduceEq, Int.reduceNeg, ↓reduceIte, reduceCtorEq, List.replicate, hld]) | apply gC_drawW | ((first | apply gI_dec | apply gG_dec | apply gPG_dec | apply gI_var | apply gG_var | apply gPG_var) <;> intro _))
    refine callV_flat (by rw [hC]; exact hln.flat rfl rfl) ?_
    repeat' (first | (simp (disch := first | omega | assumption | exact bd (by with_unfolding_all rfl) | exact Or.inl rfl | exact Or.inl trivial | exact okL_map _ (fun _ => rfl) _ | (simp only [VVlen] <;> omega) | fail) only [O1, WA, slotsL, opdsA, Nat.reduceEqDiff, Nat.reduceLT, Nat.reduceAdd, Nat.reduceBEq, Int.reduceAdd, Int.reduceSub, Int.reduceLT, Int.reduceLE, Int.reduceEq, Int.reduceNeg, ↓reduceIte, reduceCtorEq, List.replicate, hld, cat_l]) | apply gC_drawW | ((first | apply gI_dec | apply gG_dec | apply gPG_dec | apply gI_var | apply gG_var | apply gPG_var) <;> intro _))
    refine ⟨11 - (k + 1), _, _, by omega, weak_to [(0, 0)] 1 h0 rfl rfl rfl rfl, k + 1, rfl, by omega, ?_, rfl⟩
    rw [htx, ← List.append_assoc]
    rfl
  · have : k = 11 := by omega
    subst this
    have hfull : nmI.take 11 = nmI := List.take_of_length_le (by rw [nmI_len]; exact Nat.le_refl _)
    have htl := nm_txlen 11
    rw [hfull] at htl ⊢
    have hp := cparse_p w 1 hes her (tx nmI) (by omega)
    rw [parseT_tx (by rw [nmI_len]; decide) nmI_all (by omega)] at hp
    have ht := ctext_p w 3 3 nmI (by rw [nmI_len]; decide)
    rw [textsF_of (by rw [nmI_len]; decide) nmI_all (by omega)] at ht
    unfold parV at hp
    rw [nmI_len] at hp ht
    generalize tx nmI = F at *
    generalize insD nmI = N at *
    repeat' (first | (simp (disch := first | omega | assumption | exact bd (by with_unfolding_all rfl) | exact Or.inl rfl | exact Or.inl trivial | exact okL_map _ (fun _ => rfl) _ | (simp only [VVlen] <;> omega) | fail) only [O1, WA, slotsL, opdsA, Nat.reduceEqDiff, Nat.reduceLT, Nat.reduceAdd, Nat.reduceBEq, Int.reduceAdd, Int.reduceSub, Int.reduceLT, Int.reduceLE, Int.reduceEq, Int.reduceNeg, ↓reduceIte, reduceCtorEq, List.replicate, c5l1]) | apply gC_drawW | ((first | apply gI_dec | apply gG_dec | apply gPG_dec | apply gI_var | apply gG_var | apply gPG_var) <;> intro _))
    all_goals try (exfalso; omega)
    refine callV_fin (by rw [hC]; exact hp) rfl rfl (fun _ => rfl) ?_
    repeat' (first | (simp (disch := first | omega | assumption | exact bd (by with_unfolding_all rfl) | exact Or.inl rfl | exact Or.inl trivial | exact okL_map _ (fun _ => rfl) _ | (simp only [VVlen] <;> omega) | fail) only [O1, WA, slotsL, opdsA, Nat.reduceEqDiff, Nat.reduceLT, Nat.reduceAdd, Nat.reduceBEq, Int.reduceAdd, Int.reduceSub, Int.reduceLT, Int.reduceLE, Int.reduceEq, Int.reduceNeg, ↓reduceIte, reduceCtorEq, List.replicate]) | apply gC_drawW | ((first | apply gI_dec | apply gG_dec | apply gPG_dec | apply gI_var | apply gG_var | apply gPG_var) <;> intro _))
    refine callV_flat (by rw [hC]; exact ht.flat rfl rfl) ?_
    repeat' (first | (simp (disch := first | omega | assumption | exact bd (by with_unfolding_all rfl) | exact Or.inl rfl | exact Or.inl trivial | exact okL_map _ (fun _ => rfl) _ | (simp only [VVlen] <;> omega) | fail) only [O1, WA, slotsL, opdsA, Nat.reduceEqDiff, Nat.reduceLT, Nat.reduceAdd, Nat.reduceBEq, Int.reduceAdd, Int.reduceSub, Int.reduceLT, Int.reduceLE, Int.reduceEq, Int.reduceNeg, ↓reduceIte, reduceCtorEq, List.replicate, ↓bdRow]) | apply gC_drawW | ((first | apply gI_dec | apply gG_dec | apply gPG_dec | apply gI_var | apply gG_var | apply gPG_var) <;> intro _))
    refine g_while (fun m fr st => ∃ (k : Nat), m = 27 - k ∧ k ≤ 27 ∧ fr = [(2, strV F), (9, .sc (.int .i64 0)), (10, .sc (.int .i64 0)), (11, strV F), (12, .sc (.int .i64 0)), (13, .ref 0 0 27 27), (14, .sc (.int .i64 k))] ∧ st = ⟨[(0, .row 9 1 false false (bdT.map sD))], 1, 0⟩) 27 ?_ ⟨_, _, weak_to [(1, 0)] 1 h0 rfl rfl rfl rfl, 0, by omega, Nat.zero_le _, rfl, rfl⟩ ?_
    · rw [hrn]; unfold many; omega
    rintro m fr st ⟨k, rfl, hk, rfl, rfl⟩
    by_cases hlt : k < 27
    · have hld := bd_ld k hlt
      have hnl := bdT_len k hlt
      have hrd := read_p w 2 hes her bdT[k]! (by omega)
      rw [readO_bad (bdT_read k hlt)] at hrd
      generalize bdT[k]! = T at *
      rw [resI_none] at hrd
      repeat' (first | (simp (disch := first | omega | assumption | exact bd (by with_unfolding_all rfl) | exact Or.inl rfl | exact Or.inl trivial | exact okL_map _ (fun _ => rfl) _ | (simp only [VVlen] <;> omega) | fail) only [O1, WA, slotsL, opdsA, Nat.reduceEqDiff, Nat.reduceLT, Nat.reduceAdd, Nat.reduceBEq, Int.reduceAdd, Int.reduceSub, Int.reduceLT, Int.reduceLE, Int.reduceEq, Int.reduceNeg, ↓reduceIte, reduceCtorEq, List.replicate, c5l0, hld]) | apply gC_drawW | ((first | apply gI_dec | apply gG_dec | apply gPG_dec | apply gI_var | apply gG_var | apply gPG_var) <;> intro _))
      all_goals try (exfalso; omega)
      refine callV_flat (by rw [hC]; exact hrd.flat rfl rfl) ?_
      repeat' (first | (simp (disch := first | omega | assumption | exact bd (by with_unfolding_all rfl) | exact Or.inl rfl | exact Or.inl trivial | exact okL_map _ (fun _ => rfl) _ | (simp only [VVlen] <;> omega) | fail) only [O1, WA, slotsL, opdsA, Nat.reduceEqDiff, Nat.reduceLT, Nat.reduceAdd, Nat.reduceBEq, Int.reduceAdd, Int.reduceSub, Int.reduceLT, Int.reduceLE, Int.reduceEq, Int.reduceNeg, ↓reduceIte, reduceCtorEq, List.replicate, hld, show (false == false) = true from rfl]) | apply gC_drawW | ((first | apply gI_dec | apply gG_dec | apply gPG_dec | apply gI_var | apply gG_var | apply gPG_var) <;> intro _))
      exact ⟨27 - (k + 1), _, _, by omega, weak_to [(0, 0)] 1 h0 rfl rfl rfl rfl, k + 1, rfl, by omega, rfl, rfl⟩
    · have : k = 27 := by omega
      subst this
      have p1 := cparse_p w 1 hes her [105, 110, 32, 49] (by decide)
      have p2 := cparse_p w 1 hes her [105, 110, 32, 49, 10, 10] (by decide)
      have p3 := cparse_p w 1 hes her [] (by decide)
      rw [parse_in1] at p1
      rw [parse_in2] at p2
      rw [parse_none] at p3
      unfold parV at p1 p2 p3
      have l1 := cLine_p w 4 ins0
      rw [lineF_0] at l1
      rw [insV_0] at l1
      have t1 := ctext_p w 3 0 (List.replicate 2001 ins0) (by rw [List.length_replicate]; decide)
      rw [textsF_many, List.length_replicate, zD_ins] at t1
      have m1 := cmirror_p w 2 0 [ins0] (by decide)
      rw [mirF_0, show insD [ins0] = zD 1 from zD_ins 1, show [ins0].length = 1 from rfl] at m1
      have m2 := cmirror_p w 2 0 (List.replicate 2001 ins0) (by rw [List.length_replicate]; decide)
      rw [mirF_many, List.length_replicate, zD_ins] at m2
      have t2 := ctext_p w 3 0 [ins0] (by decide)
      rw [textsF_0, show insD [ins0] = zD 1 from zD_ins 1, show [ins0].length = 1 from rfl] at t2
      have a1 := alive_p w 0 hes her
      have g1 := long_p w 0 hes her
      unfold mirV at m1 m2
      repeat' (first | (simp (disch := first | omega | assumption | exact bd (by with_unfolding_all rfl) | exact Or.inl rfl | exact Or.inl trivial | exact okL_map _ (fun _ => rfl) _ | (simp only [VVlen] <;> omega) | fail) only [O1, WA, slotsL, opdsA, Nat.reduceEqDiff, Nat.reduceLT, Nat.reduceAdd, Nat.reduceBEq, Int.reduceAdd, Int.reduceSub, Int.reduceLT, Int.reduceLE, Int.reduceEq, Int.reduceNeg, ↓reduceIte, reduceCtorEq, List.replicate, c5l0]) | apply gC_drawW | ((first | apply gI_dec | apply gG_dec | apply gPG_dec | apply gI_var | apply gG_var | apply gPG_var) <;> intro _))
      all_goals try (exfalso; omega)
      refine callV_fin (by rw [hC]; exact p1) rfl rfl (fun _ => rfl) ?_
      repeat' (first | (simp (disch := first | omega | assumption | exact bd (by with_unfolding_all rfl) | exact Or.inl rfl | exact Or.inl trivial | exact okL_map _ (fun _ => rfl) _ | (simp only [VVlen] <;> omega) | fail) only [O1, WA, slotsL, opdsA, Nat.reduceEqDiff, Nat.reduceLT, Nat.reduceAdd, Nat.reduceBEq, Int.reduceAdd, Int.reduceSub, Int.reduceLT, Int.reduceLE, Int.reduceEq, Int.reduceNeg, ↓reduceIte, reduceCtorEq, List.replicate]) | apply gC_drawW | ((first | apply gI_dec | apply gG_dec | apply gPG_dec | apply gI_var | apply gG_var | apply gPG_var) <;> intro _))
      refine callV_fin (by rw [hC]; exact p2) rfl rfl (fun _ => rfl) ?_
      repeat' (first | (simp (disch := first | omega | assumption | exact bd (by with_unfolding_all rfl) | exact Or.inl rfl | exact Or.inl trivial | exact okL_map _ (fun _ => rfl) _ | (simp only [VVlen] <;> omega) | fail) only [O1, WA, slotsL, opdsA, Nat.reduceEqDiff, Nat.reduceLT, Nat.reduceAdd, Nat.reduceBEq, Int.reduceAdd, Int.reduceSub, Int.reduceLT, Int.reduceLE, Int.reduceEq, Int.reduceNeg, ↓reduceIte, reduceCtorEq, List.replicate]) | apply gC_drawW | ((first | apply gI_dec | apply gG_dec | apply gPG_dec | apply gI_var | apply gG_var | apply gPG_var) <;> intro _))
      refine callV_fin (by rw [hC]; exact p3) rfl rfl (fun _ => rfl) ?_
      repeat' (first | (simp (disch := first | omega | assumption | exact bd (by with_unfolding_all rfl) | exact Or.inl rfl | exact Or.inl trivial | exact okL_map _ (fun _ => rfl) _ | (simp only [VVlen] <;> omega) | fail) only [O1, WA, slotsL, opdsA, Nat.reduceEqDiff, Nat.reduceLT, Nat.reduceAdd, Nat.reduceBEq, Int.reduceAdd, Int.reduceSub, Int.reduceLT, Int.reduceLE, Int.reduceEq, Int.reduceNeg, ↓reduceIte, reduceCtorEq, List.replicate]) | apply gC_drawW | ((first | apply gI_dec | apply gG_dec | apply gPG_dec | apply gI_var | apply gG_var | apply gPG_var) <;> intro _))
      refine callV_flat (by rw [hC]; exact l1.flat rfl rfl) ?_
      repeat' (first | (simp (disch := first | omega | assumption | exact bd (by with_unfolding_all rfl) | exact Or.inl rfl | exact Or.inl trivial | exact okL_map _ (fun _ => rfl) _ | (simp only [VVlen] <;> omega) | fail) only [O1, WA, slotsL, opdsA, Nat.reduceEqDiff, Nat.reduceLT, Nat.reduceAdd, Nat.reduceBEq, Int.reduceAdd, Int.reduceSub, Int.reduceLT, Int.reduceLE, Int.reduceEq, Int.reduceNeg, ↓reduceIte, reduceCtorEq, List.replicate, ↓mk2001]) | apply gC_drawW | ((first | apply gI_dec | apply gG_dec | apply gPG_dec | apply gI_var | apply gG_var | apply gPG_var) <;> intro _))
      refine callV_of (by rw [hC]; exact t1) (snapL_1 ((snap_ref7 rfl (by rw [zD_len]; decide)).trans (by rw [zD_full]))) rfl rfl ?_
      repeat' (first | (simp (disch := first | omega | assumption | exact bd (by with_unfolding_all rfl) | exact Or.inl rfl | exact Or.inl trivial | exact okL_map _ (fun _ => rfl) _ | (simp only [VVlen] <;> omega) | fail) only [O1, WA, slotsL, opdsA, Nat.reduceEqDiff, Nat.reduceLT, Nat.reduceAdd, Nat.reduceBEq, Int.reduceAdd, Int.reduceSub, Int.reduceLT, Int.reduceLE, Int.reduceEq, Int.reduceNeg, ↓reduceIte, reduceCtorEq, List.replicate, vsh, vshL, shH, shO, fzSL, fzS, ↓mk1]) | apply gC_drawW | ((first | apply gI_dec | apply gG_dec | apply gPG_dec | apply gI_var | apply gG_var | apply gPG_var) <;> intro _))
      refine callV_of (by rw [hC]; exact m1) (snapL_1 ((snap_ref7 rfl (by rw [zD_len]; decide)).trans (by rw [zD_full]))) rfl rfl ?_
      repeat' (first | (simp (disch := first | omega | assumption | exact bd (by with_unfolding_all rfl) | exact Or.inl rfl | exact Or.inl trivial | exact okL_map _ (fun _ => rfl) _ | (simp only [VVlen] <;> omega) | fail) only [O1, WA, slotsL, opdsA, Nat.reduceEqDiff, Nat.reduceLT, Nat.reduceAdd, Nat.reduceBEq, Int.reduceAdd, Int.reduceSub, Int.reduceLT, Int.reduceLE, Int.reduceEq, Int.reduceNeg, ↓reduceIte, reduceCtorEq, List.replicate, vsh, vshL, shH, shO, fzSL, fzS, ↓mk2001]) | apply gC_drawW | ((first | apply gI_dec | apply gG_dec | apply gPG_dec | apply gI_var | apply gG_var | apply gPG_var) <;> intro _))
      refine callV_of (by rw [hC]; exact m2) (snapL_1 ((snap_ref7 rfl (by rw [zD_len]; decide)).trans (by rw [zD_full]))) rfl rfl ?_
      repeat' (first | (simp (disch := first | omega | assumption | exact bd (by with_unfolding_all rfl) | exact Or.inl rfl | exact Or.inl trivial | exact okL_map _ (fun _ => rfl) _ | (simp only [VVlen] <;> omega) | fail) only [O1, WA, slotsL, opdsA, Nat.reduceEqDiff, Nat.reduceLT, Nat.reduceAdd, Nat.reduceBEq, Int.reduceAdd, Int.reduceSub, Int.reduceLT, Int.reduceLE, Int.reduceEq, Int.reduceNeg, ↓reduceIte, reduceCtorEq, List.replicate, vsh, vshL, shH, shO, fzSL, fzS, ↓mk1]) | apply gC_drawW | ((first | apply gI_dec | apply gG_dec | apply gPG_dec | apply gI_var | apply gG_var | apply gPG_var) <;> intro _))
      refine callV_of (by rw [hC]; exact t2) (snapL_1 ((snap_ref7 rfl (by rw [zD_len]; decide)).trans (by rw [zD_full]))) rfl rfl ?_
      repeat' (first | (simp (disch := first | omega | assumption | exact bd (by with_unfolding_all rfl) | exact Or.inl rfl | exact Or.inl trivial | exact okL_map _ (fun _ => rfl) _ | (simp only [VVlen] <;> omega) | fail) only [O1, WA, slotsL, opdsA, Nat.reduceEqDiff, Nat.reduceLT, Nat.reduceAdd, Nat.reduceBEq, Int.reduceAdd, Int.reduceSub, Int.reduceLT, Int.reduceLE, Int.reduceEq, Int.reduceNeg, ↓reduceIte, reduceCtorEq, List.replicate, vsh, vshL, shH, shO, fzSL, fzS]) | apply gC_drawW | ((first | apply gI_dec | apply gG_dec | apply gPG_dec | apply gI_var | apply gG_var | apply gPG_var) <;> intro _))
      refine callV_flat (by rw [hC]; exact a1.flat rfl rfl) ?_
      repeat' (first | (simp (disch := first | omega | assumption | exact bd (by with_unfolding_all rfl) | exact Or.inl rfl | exact Or.inl trivial | exact okL_map _ (fun _ => rfl) _ | (simp only [VVlen] <;> omega) | fail) only [O1, WA, slotsL, opdsA, Nat.reduceEqDiff, Nat.reduceLT, Nat.reduceAdd, Nat.reduceBEq, Int.reduceAdd, Int.reduceSub, Int.reduceLT, Int.reduceLE, Int.reduceEq, Int.reduceNeg, ↓reduceIte, reduceCtorEq, List.replicate]) | apply gC_drawW | ((first | apply gI_dec | apply gG_dec | apply gPG_dec | apply gI_var | apply gG_var | apply gPG_var) <;> intro _))
      refine callV_flat (by rw [hC]; exact g1.flat rfl rfl) ?_
      repeat' (first | (simp (disch := first | omega | assumption | exact bd (by with_unfolding_all rfl) | exact Or.inl rfl | exact Or.inl trivial | exact okL_map _ (fun _ => rfl) _ | (simp only [VVlen] <;> omega) | fail) only [O1, WA, slotsL, opdsA, Nat.reduceEqDiff, Nat.reduceLT, Nat.reduceAdd, Nat.reduceBEq, Int.reduceAdd, Int.reduceSub, Int.reduceLT, Int.reduceLE, Int.reduceEq, Int.reduceNeg, ↓reduceIte, reduceCtorEq, List.replicate]) | apply gC_drawW | ((first | apply gI_dec | apply gG_dec | apply gPG_dec | apply gI_var | apply gG_var | apply gPG_var) <;> intro _))
      exact weak_flat rfl h0 rfl
end
end Go.Proofs.YtbefpfbidgfipaaDoor
namespace Go.Proofs.YtbefpfbidgfipaaDoor
open Go Go.Itp
open Go.ChangeShapes Go.WideShapes Go.ChangeAt Go.RowKit
set_option linter.unusedVariables false
set_option maxRecDepth 100000
set_option maxHeartbeats 4000000
theorem reach_lt : reachBytes ≤ 140737488351232 := by decide
def listed : List (String × DataW Unit) := [("math/bits.deBruijn32tab", Rows.laid_math_bits_deBruijn32tab), ("math/bits.deBruijn64tab", Rows.laid_math_bits_deBruijn64tab), ("internal/strconv.uint64pow10", Rows.laid_internal_strconv_uint64pow10), ("strconv.ErrRange", Rows.laid_strconv_ErrRange), ("strconv.ErrSyntax", Rows.laid_strconv_ErrSyntax)]
theorem listed_met (os : Os) (args : Array Value) : laidMetH Tryd.prog listed ((World.laidAll Tryd.prog os listed).forCall (fun _ _ => 0) ⟨#[], args, []⟩).memory := by
  rw [MakeChecks.laidMetH_plain _ _ _ (by kernel_rfl)]
  exact laidMet_laidAll _ (by kernel_rfl) (by kernel_rfl)
theorem listed_shaped (os : Os) : (World.laidAll Tryd.prog os listed).Shaped Tryd.prog := World.shaped_of_ZipB (by kernel_rfl) (by kernel_rfl)
theorem stand_ins {l : List TypeId} {t : TypeId} (hall : (l.all fun u => !Tryd.prog.wantsStandIn u) = true) (h : t ∈ l) : Tryd.prog.wantsStandIn t = false := by
  have := List.all_eq_true.1 hall t h
  simpa using this
theorem cnames_lifted (os : Os) (started : os.Started) (H : Type) (enc : TypeId × Value → H) :
    ReturnsInHanded {} Tryd.checked os 5 .any (fun w args => (Rows.codeNamesSpec.pre enc Tryd.prog Tryd.f5 [] false w args ∧ laidMetH Tryd.prog listed w) ∧ sizedMet enc Tryd.prog Tryd.f5 (OpenSpec.ofChange Rows.codeNamesSpec) false w args)
      (Rows.codeNamesSpec.post enc Tryd.prog Tryd.f5 false true false false) := by
  refine returnsInHanded_of_change_and (C := Tryd.checked) (X := fun w _ => laidMetH Tryd.prog listed w) (fun _ _ _ hh h => h.of_heap hh) own started (by kernel_rfl) Tryd.func5
    (ChangeSpec.witness_shaped (enc := enc) (C := Tryd.checked) (os := os) (X := fun w _ => laidMetH Tryd.prog listed w) false (World.laidAll Tryd.prog os listed) #[] 8 (World.laidAll_os _ _ _) (listed_shaped os) (by kernel_rfl) (by kernel_rfl) (by kernel_rfl) (listed_met os _)) ?_
  intro W base args ds gs before hval0 hW _ hsz0 hL _
  have hval : ∀ (j : Nat) t v, Tryd.f5.params[j]? = some t → args[j]? = some v → Value.okWide Tryd.prog W .any base t v := hval0
  have hW' := hW
  obtain ⟨p, q, hA0, hV, rfl, hfz, hnd⟩ := hW
  have hA : DataW.TrodAll enc Tryd.prog W 0 (fun _ => true) true Tryd.f5.params.toList args.toList ds p := hA0
  have hsz : (DataW.weightsEach Tryd.prog (Tryd.f5.params.toList ++ Rows.codeNamesSpec.plain.varTypes Tryd.prog) (ds ++ gs)).all (· ≤ reachBytes) = true := hsz0
  rw [Tryd.params5] at hA hval hsz
  obtain ⟨hargs, rfl, rfl⟩ := trodAll_nil hA
  obtain rfl : args = #[] := by cases args; simp_all
  have hr := reach_lt
  have hLm : laidMet Tryd.prog listed W := by rw [← MakeChecks.laidMetH_plain _ _ _ (by kernel_rfl)]; exact hL
  have htab : Tab W := laid_tab hLm 2 rfl (g := 3) (t := 129) (e := 107) (k := .u64) (m := 20) (by kernel_rfl) (by kernel_rfl) Tryd.underlying129 Tryd.underlying107 (by kernel_rfl) (by kernel_rfl) rfl
  have hesy : (errO Tryd.prog W "strconv.ErrSyntax").isSome = true := laid_errO hLm 4 rfl (g := 1) (t := 65) (by kernel_rfl) (by kernel_rfl) Tryd.underlying65
  have herr : (errO Tryd.prog W "strconv.ErrRange").isSome = true := laid_errO hLm 3 rfl (g := 2) (t := 65) (by kernel_rfl) (by kernel_rfl) Tryd.underlying65
  obtain ⟨s', hbody⟩ := law_v (old := oldOf W) (rounds := many) (fns := fns) (prims := PR W) (n := 8) (af := c5) (xs := []) (xsI := []) (x := .bool true) (Nat.le_of_ble_eq_true rfl)
    (by simp only [VRepL]) fun C hC hn => cnames_p W   hesy herr hC hn
  have hfn : fns 5 = some c5 := rfl
  have hrv : ids 0 (.bool true) = [] := rfl
  refine (law_of htab (f := 5) (af := c5) hfn (xs := []) rfl _ hbody hrv).mono fun e W' ⟨he, hbe⟩ => ?_
  exact ⟨_, he, law_post hW' rfl rfl (by kernel_rfl) (by kernel_rfl) Tryd.underlying4 hbe⟩
theorem cnames_over : Rows.CodeNamesSaid :=
  OpenClaim.holds_of_wide 5 Tryd.f5 rfl rfl rfl rfl rfl rfl rfl ⟨rfl, rfl, rfl, rfl, rfl⟩ rfl rfl rfl rfl rfl (by kernel_rfl) Tryd.func5 (by kernel_rfl)
    (of_decide_eq_true (by kernel_rfl)) (by unfold Func.isWrapper; first | (rw [if_pos (by decide +kernel)]; kernel_rfl) | (rw [if_neg (by decide +kernel)]; exact ⟨rfl, rfl⟩))
    (fun os started H enc _ => cnames_lifted os started H enc)
theorem cnames_holds : Rows.CodeNamesCardSaid :=
  Claim7.holds_tied_plain_at .later [] [.data, .data, .data, .sentinel, .sentinel] true _ true
    cnames_over (fun _ h => by cases h) (by kernel_rfl) (fun _ h => by cases h) codeNames_row_tie rfl ⟨rfl, rfl⟩ (by kernel_rfl) rfl
    (fun f fn hf hfn => by
      obtain rfl : f = 5 := Option.some.inj ((show Tryd.prog.funcNamed "raddle/raddlelaw33.CodeNames" = some 5 by kernel_rfl).symm.trans hf) |>.symm
      obtain rfl : fn = Tryd.f5 := (Option.some.inj (Tryd.func5.symm.trans hfn)).symm
      exact ⟨by kernel_rfl, fun j t ht => stand_ins (l := []) (by kernel_rfl) (by rw [Tryd.params5] at ht; simpa using Array.mem_of_getElem? ht)⟩)
    (by kernel_rfl)
#print axioms cnames_holds
end Go.Proofs.YtbefpfbidgfipaaDoor
