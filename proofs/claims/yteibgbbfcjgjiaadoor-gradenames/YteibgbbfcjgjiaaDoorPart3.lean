/- What is proved: the law GradeNames returns true (its card, with the listed variables tied to the program's text). Conditions: none.
   Texts: Lib, Shell, Shell2.
-/
import Derived.Test.YteibgbbfcjgjiaaDoorPart2
import Derived.ChangeSame
import Derived.ChangeReads
import Derived.ChangeSlices
import Derived.SliceStrings
import Derived.ChangeShapes
import Derived.WideShapes
import Derived.ProofKit
import Derived.OpenShut
import Derived.SizedLaws
/-
  Plain facts on lists, read by numbers.
-/
namespace Go.Itp
section
variable {α : Type} [Inhabited α] [DecidableEq α]
theorem lt_succ_cases {P : Nat → Prop} {k : Nat} (h : ∀ j, j < k → P j) (hk : P k) : ∀ j, j < k + 1 → P j := fun j hj => by
  rcases Nat.lt_succ_iff_lt_or_eq.1 hj with h' | rfl
  · exact h j h'
  · exact hk
/-- the first place of an element among the first ones of a list, or -1 -/
def placeG (l : List α) (x : α) : Nat → Int
  | 0 => -1
  | k + 1 => if 0 ≤ placeG l x k then placeG l x k else if l[k]! = x then k else -1
theorem placeG_none {l : List α} {x : α} : ∀ k, (∀ j, j < k → ¬ l[j]! = x) → placeG l x k = -1
  | 0, _ => rfl
  | k + 1, h => by
    simp only [placeG]
    rw [placeG_none k (fun j hj => h j (by omega)), if_neg (by omega), if_neg (h k (by omega))]
theorem placeG_some {l : List α} {x : α} {i : Nat} (hi : l[i]! = x) (h : ∀ j, j < i → ¬ l[j]! = x) : ∀ k, i < k → placeG l x k = i
  | 0, h => by omega
  | k + 1, hk => by
    simp only [placeG]
    by_cases e : i = k
    · subst e; rw [placeG_none i h, if_neg (by omega), if_pos hi]
    · rw [placeG_some hi h k (by omega), if_pos (by omega)]
theorem placeG_or (l : List α) (x : α) (k : Nat) : (placeG l x k = -1 ∧ ∀ j, j < k → ¬ l[j]! = x) ∨ ∃ i, i < k ∧ placeG l x k = i ∧ l[i]! = x ∧ ∀ j, j < i → ¬ l[j]! = x := by
  induction k with
  | zero => exact Or.inl ⟨rfl, by omega⟩
  | succ k ih =>
    rcases ih with ⟨h1, h2⟩ | ⟨i, h1, h2, h3, h4⟩
    · by_cases hx : l[k]! = x
      · exact Or.inr ⟨k, by omega, placeG_some hx h2 _ (by omega), hx, h2⟩
      · exact Or.inl ⟨placeG_none _ (lt_succ_cases h2 hx), lt_succ_cases h2 hx⟩
    · exact Or.inr ⟨i, by omega, placeG_some h3 h4 _ (by omega), h3, h4⟩
theorem placeG_range (l : List α) (x : α) (k : Nat) : -1 ≤ placeG l x k ∧ placeG l x k < k := by
  rcases placeG_or l x k with ⟨h, _⟩ | ⟨i, h1, h2, _⟩ <;> omega
end
theorem take_succ! {α : Type} [Inhabited α] (l : List α) (k : Nat) (h : k < l.length) : l.take (k + 1) = l.take k ++ [l[k]!] := by
  rw [List.take_succ_eq_append_getElem h, getElem!_pos l k h]
/-! ### bytes -/
theorem idxStr_in (t : ByteArray) (k : IntKind) (z : Int) (h0 : 0 ≤ z) (h1 : z < t.size) : idxStrA (.string t) (.int k z) = some (.int .u8 ((t.data.toList[z.toNat]!).toNat : Nat)) := by
  have hz : z.toNat < t.data.toList.length := by simp; omega
  simp only [idxStrA, idxNat_in k z t.size h0 h1, Option.bind_some, lget_eq, List.getElem?_eq_getElem hz, Option.map_some, getElem!_pos t.data.toList z.toNat hz]
theorem len_string (t : ByteArray) : lenX true (.string t) = some (.int .i64 t.size) := rfl
def vB (b : UInt8) : Value := .int .u8 b.toNat
theorem cellsOfBytes_map (l : List UInt8) : cellsOfBytes l = l.map vB := rfl
def s2bA (nx : Nat) (t : TypeId) : Value → Option (Value × List Blk)
  | .string b => if Nat.ble b.size room then some (.slice (some ⟨nx, 0, some 0⟩) b.size (big + b.size), [⟨cellsOfBytes b.data.toList, 1, true, t⟩]) else none
  | _ => none
theorem q_s2b (E : Env) (fr : Fr) (s : St) (t : TypeId) (x : Operand) : pstep E fr s (.s2b t x) = op1 (s2bA s.next t) (ev fr x) := by
  simp only [pstep, op1]
  cases ev fr x with
  | none => rfl
  | some v => cases v <;> rfl
theorem s_s2b (E : Env) (fr : Fr) (s : St) (t : TypeId) (x : Operand) : step E fr s (.s2b t x) = retB s (op1 (s2bA s.next t) (ev fr x)) := step_eqB E fr s _ _ (q_s2b ..) rfl
theorem s2b_string (nx : Nat) (t : TypeId) (b : ByteArray) (h : b.size ≤ 1099511627776) : s2bA nx t (.string b) = some (.slice (some ⟨nx, 0, some 0⟩) b.size (big + b.size), [⟨b.data.toList.map vB, 1, true, t⟩]) := by
  simp only [s2bA, cellsOfBytes_map]
  rw [if_pos (by rw [Nat.ble_eq]; exact h)]
theorem size_toList (b : ByteArray) : b.data.toList.length = b.size := by simp
/-! ### structures -/
theorem box_agg (nx : Nat) (t : TypeId) (l : List Value) : boxA nx t (.agg l.toArray) = some (.pointer (some ⟨nx, 0, some 0⟩), [⟨l, 1, false, t⟩]) := by
  simp [boxA, Value.cells]
theorem fldA_new (i o p n : Nat) : fldAA n (.pointer (some ⟨i, o, some p⟩)) = some (.pointer (some ⟨i, o + n, some p⟩)) := rfl
def loadN' (o : Option Blk) (k n : Nat) : Option Value := match o with | some b => (ltake (b.cells.drop k) n).map fun l => .agg l.toArray | none => none
theorem loadAgg_new (E : Env) (h : Heap) (n i o p : Nat) : loadA E h (some n) (.pointer (some ⟨i, o, some p⟩)) = loadN' (hget h i) o n := by
  simp only [loadA, loadG, aloadN, loadN']
  cases hget h i <;> rfl
theorem loadN_some (b : Blk) (k n : Nat) : loadN' (some b) k n = (ltake (b.cells.drop k) n).map fun l => .agg l.toArray := rfl
theorem ltake_zero {α : Type} (l : List α) : ltake l 0 = some [] := by cases l <;> rfl
theorem ltake_succ {α : Type} (x : α) (l : List α) (n : Nat) : ltake (x :: l) (n + 1) = (ltake l n).map (x :: ·) := rfl
end Go.Itp
/-
  From the interpreter's answer to a given statement: what an argument reads as, and that it reads so behind the call too.
-/
namespace Go.Itp
open Go.RowKit (Below)
open Go.ChangeShapes Go.WideShapes

/-- types whose values hold no pointer, map, function or interface -/
def flatT (P : Program) : Nat → TypeId → Bool
  | 0, _ => false
  | k + 1, t => match P.underlying t with
    | some .bool => true
    | some (.int _) => true
    | some .string => true
    | some (.slice e) => !(P.cellsOf e == 0) && flatT P k e
    | some (.struct fs) => fs.toList.all fun f => flatT P k f.type
    | some (.array _ e) => flatT P k e
    | _ => false
section
variable {H : Type} {enc : TypeId × Value → H} {P : Program} {w : World} {base : Nat} {held : Bool} {sp : Nat → Bool}
theorem trod_sp : ∀ (k n : Nat) (t : TypeId) (cs : List Value) (x : DataW H × List MemPlace), flatT P k t = true → DataW.trod enc P w base (fun _ => true) held n t cs = some x → (∀ p ∈ x.2, sp p.block = true) →
    DataW.trod enc P w base sp held n t cs = some x
  | 0, _, _, _, _, h, _, _ => by simp [flatT] at h
  | k + 1, 0, _, _, _, _, h, _ => by simp [DataW.trod] at h
  | k + 1, n + 1, t, cs, x, hf, h, hs => by
    have ih := fun t cs x => trod_sp k n t cs x
    rw [DataW.trod_step] at h ⊢
    unfold DataW.trodStep at h ⊢
    unfold flatT at hf
    split at h
    case h_8 e a len cap hu =>
      rw [hu] at hf
      simp only [Bool.and_eq_true, Bool.not_eq_true', beq_eq_false_iff_ne] at hf
      simp only at h ⊢
      split at h
      · rename_i hc
        rw [if_pos hc]
        simp only [Option.map_eq_some_iff, Option.bind_eq_some_iff, if_true] at h ⊢
        obtain ⟨elems, he, rest, hrest, rfl⟩ := h
        have hl1 : elems.length = len := by simpa using mapM_some_length he
        have hl2 : rest.length = cap - len := by simpa using mapM_some_length hrest
        have one : ∀ (a : Addr) (y : DataW H × List MemPlace), y ∈ elems ++ rest → (w.cells? base a (P.cellsOf e)).bind (DataW.trod enc P w base (fun _ => true) held n e) = some y →
            (w.cells? base a (P.cellsOf e)).bind (DataW.trod enc P w base sp held n e) = some y := by
          intro a y hy hv
          simp only [Option.bind_eq_some_iff] at hv ⊢
          obtain ⟨c, hc1, hc2⟩ := hv
          exact ⟨c, hc1, ih _ _ _ hf.2 hc2 fun p hp => hs p (by simp only [List.mem_append, List.mem_flatMap]; exact Or.inr ⟨y, by simpa using hy, hp⟩)⟩
        refine ⟨elems, mapM_carry he fun i y _ hy hv => one _ y (by simp [hy]) hv, rest, ?_, rfl⟩
        by_cases hz : elems.length + rest.length = 0
        · have : rest = [] := List.length_eq_zero_iff.1 (by omega)
          subst this
          have : cap - len = 0 := by simpa using hl2.symm
          rw [this]
          split <;> simp
        · have hb : sp a.block = true := by
            have := hs (.cell a.block (a.off + 0)) (by
              simp only [List.mem_append]
              left
              refine MemPlace.mem_row.2 ⟨0, ?_, rfl⟩
              exact Nat.mul_pos (by omega) (Nat.pos_of_ne_zero hf.1))
            simpa [MemPlace.block] using this
          rw [if_pos hb]
          exact mapM_carry hrest fun j y _ hy hv => one _ y (by simp [hy]) hv
      · cases h
    case h_9 fs hu =>
      rw [hu] at hf
      simp only [List.all_eq_true] at hf
      split at h
      · rename_i hc
        rw [if_pos hc]
        simp only [Option.map_eq_some_iff] at h ⊢
        obtain ⟨xs, hx, rfl⟩ := h
        exact ⟨xs, mapM_carry hx (fun f y hfm hy hv => ih _ _ _ (hf f hfm) hv (fun p hp => hs p (List.mem_flatMap.2 ⟨y, hy, hp⟩))), rfl⟩
      · cases h
    case h_10 m e hu =>
      rw [hu] at hf
      split at h
      · rename_i hc
        rw [if_pos hc]
        simp only [Option.map_eq_some_iff] at h ⊢
        obtain ⟨xs, hx, rfl⟩ := h
        exact ⟨xs, mapM_carry hx (fun f y _ hy hv => ih _ _ _ hf hv (fun p hp => hs p (List.mem_flatMap.2 ⟨y, hy, hp⟩))), rfl⟩
      · cases h
    all_goals first | exact h | (exfalso; simp_all; done) | (simp_all; done)
theorem trodAll_sp (k : Nat) {W W' : World} (hb : Below W.heap.size W W') : ∀ (ts : List TypeId) (vs : List Value) (ds : List (DataW H)) (ps : List MemPlace), ts.all (flatT P k) = true →
    DataW.TrodAll enc P W base (fun _ => true) held ts vs ds ps → (∀ p ∈ ps, p.block < W.heap.size) → (∀ p ∈ ps, sp p.block = true) → DataW.TrodAll enc P W' base sp held ts vs ds ps
  | [], [], [], _, _, h, _, _ => h
  | t :: ts, v :: vs, d :: ds, ps, hf, ⟨p, q, ⟨n, h1⟩, h2, e⟩, hl, hs => by
    subst e
    simp only [List.all_cons, Bool.and_eq_true] at hf
    refine ⟨p, q, ⟨n, ?_⟩, trodAll_sp k hb ts vs ds q hf.2 h2 (fun x hx => hl x (by simp [hx])) (fun x hx => hs x (by simp [hx])), rfl⟩
    refine trod_sp k n _ _ _ hf.1 (DataW.trod_carry n _ _ _ h1 fun x hx => hb.same (hl x ?_)) fun x hx => hs x ?_
    · simp only at hx; simp [hx]
    · simp only at hx; simp [hx]
  | [], _ :: _, _, _, _, h, _, _ => by simp [DataW.TrodAll] at h
  | [], [], _ :: _, _, _, h, _, _ => by simp [DataW.TrodAll] at h
  | _ :: _, [], _, _, _, h, _, _ => by simp [DataW.TrodAll] at h
  | _ :: _, _ :: _, [], _, _, h, _, _ => by simp [DataW.TrodAll] at h
/-- the last step of a law without package variables: true is returned, and what was there reads as it did -/
theorem law_post {f : Func} {s : ChangeSpec} {apart fresh handsOn again : Bool} {W W' : World} {args : Array Value} {ds gs : List (DataW H)} {before : List MemPlace} {rt : TypeId}
    (hW : DataW.Whole enc P f.params.toList s.vars apart W args.toList ds gs before) (hv : s.vars = []) (hfn : s.fn H ds = { results := [.lit (.bool true)], args := ds })
    (hf : f.params.toList.all (flatT P 20) = true) (hr : f.resultTypes = #[rt]) (hrt : P.underlying rt = some .bool) (hb : Below W.heap.size W W') :
    s.post enc P f apart fresh handsOn again W args (.bool true) W' := by
  have hlt : ∀ p ∈ before, p.block < W.heap.size := fun p hp => hW.lt p hp
  have hW' := hW
  obtain ⟨pa, pv, hA, hV, hps, hz, hn⟩ := hW
  rw [hv] at hV
  obtain ⟨rfl, rfl⟩ := trodVars_none hV
  rw [List.append_nil] at hps
  subst hps
  have hd : s.fn H (ds ++ []) = { results := [.lit (.bool true)], args := ds } := by rw [List.append_nil]; exact hfn
  have hres : ∀ (b : Nat) (sp : Nat → Bool) (hd : Bool), DataW.TrodAll enc P W' b sp hd f.resultTypes.toList ((Value.bool true).resultList f.resultTypes.size) (s.fn H (ds ++ [])).results [] := by
    intro b sp hd'
    rw [hr, hd]
    exact ⟨[], [], ⟨1, by simp [DataW.trod, hrt, Value.cells]⟩, rfl, rfl⟩
  have hargs : ∀ sp : Nat → Bool, (∀ p ∈ before, sp p.block = true) → DataW.TrodAll enc P W' 0 sp true f.params.toList args.toList (s.fn H (ds ++ [])).args before := fun sp hsp => by rw [hd]; exact trodAll_sp 20 hb _ _ _ _ hf hA hlt hsp
  have hold : ∀ p ∈ before, (fun b => decide (b < W.heap.size)) p.block = true := fun p hp => by simpa using hlt p hp
  have hvars : ∀ sp, DataW.TrodVars enc P W' sp s.vars (s.fn H (ds ++ [])).vars [] := fun sp => by rw [hv, hd]; rfl
  refine ⟨ds, [], before, [], before, [], hW', hres _ _ _, hargs _ hold, hvars _, World.keptBut_mono (fun p hp => ⟨hp, ?_⟩) (hb.frame (· ∈ before)), fun _ => ?_⟩
  · exact Or.inr (Or.inl hp)
  · refine ⟨?_, _, _, ([] ++ before) ++ [], ⟨[] ++ before, [], trodAll_append (hargs _ (fun _ _ => rfl)) (hres _ _ _), hvars _, rfl, ?_, ?_⟩, ?_⟩
    · intro j t r h1 h2
      rw [hr] at h1 h2
      have hj : j = 0 := by
        rcases Nat.lt_or_ge j 1 with h | h
        · omega
        · rw [Array.getElem?_eq_none (by simpa using h)] at h1; cases h1
      subst hj
      simp at h1 h2
      subst h1
      have h2' : r = .bool true := by
        have : (Value.bool true).resultList 1 = [.bool true] := rfl
        rw [this] at h2; simpa using h2.symm
      subst h2'
      exact Go.RowKit.okWide_bool_mk hrt true
    · intro b off hp
      have hin : MemPlace.cell b off ∈ before := by simpa using hp
      rw [hb.frozen (hlt _ hin)]
      exact hz b off hin
    · intro ha; simpa using hn ha
    · intro p hp _; simpa using hp
end

/-- an argument that is a list of numbers -/
theorem rd_ints {H : Type} {enc : TypeId × Value → H} {P : Program} {W : World} {base b : Nat} {held : Bool} {t e : TypeId} {k : IntKind} {v : Value} {d : DataW H} {ps : List MemPlace} (ht : P.underlying t = some (.slice e)) (he : P.underlying e = some (.int k)) (hc : P.cellsOf e = 1) (hby : 0 < P.bytesOf e)
    (hv : Value.okWide P W .any b t v) (h : DataW.Trod enc P W base (fun _ => true) held t v d ps) (hsz : ∀ n ∈ d.weights P t, n ≤ reachBytes) :
    ∃ l : List Int, (∀ h, Rd (oldOf W) h (Value.int k) v l) ∧ bidN v = 0 ∧ ids 0 v = [] ∧ (∀ x ∈ l, (Lit.int k x).wf = true) ∧ l.length * P.bytesOf e ≤ reachBytes := by
  obtain ⟨n, hn⟩ := h
  have hone : v.cells.toList = [v] := cells_one (by
    unfold Value.okWide at hv
    rw [ht] at hv
    simp only [Cell.okWide, ht, Cell.ok] at hv
    cases v <;> first | rfl | (exfalso; simp at hv))
  rw [hone] at hn
  rcases open_ints ht he hc hn with ⟨h1, _⟩ | ⟨a, len, cap, zs, h1, _, hl, hm, hz, hx, hcell, hw⟩
  · simp only [List.cons.injEq, and_true] at h1
    subst h1
    exact ⟨[], fun h => Rd.nil, rfl, rfl, by simp, by simp⟩
  · simp only [List.cons.injEq, and_true] at h1
    subst h1
    have hsp : a.spot = none := by
      unfold Value.okWide at hv
      rw [ht] at hv
      simp only [Cell.okWide, ht, Cell.ok] at hv
      exact hv.2.2.2.1
    obtain ⟨b, o, s⟩ := a
    simp only at hsp
    subst hsp
    simp only [if_true] at hz
    have hlen : len ≤ zs.length := by omega
    simp only [Prod.mk.injEq] at hx
    have hmax : cap * P.bytesOf e ≤ reachBytes := by
      have := hsz ((lits (H := H) k (zs.take len)).length + (lits (H := H) k (zs.drop len)).length |> (· * P.bytesOf e)) (by rw [hx.1]; simp [DataW.weights, ht])
      simp only [lits, List.length_map, List.length_take, List.length_drop] at this
      rw [show min len zs.length + (zs.length - len) = cap by omega] at this
      exact this
    have hcap : cap ≤ cap * P.bytesOf e := Nat.le_mul_of_pos_right _ hby
    have hbig : reachBytes < big := by decide
    refine ⟨zs.take len, fun h => ⟨Or.inl ⟨_, cap, by rw [List.length_take, Nat.min_eq_left hlen], ?_, Or.inr ⟨_, rfl, fun i hi => by simp [bidA] at hi, fun j hj => ?_⟩⟩⟩, rfl, rfl, fun x hx => hw x (List.mem_of_mem_take hx), ?_⟩
    · rw [List.length_take, Nat.min_eq_left hlen]
      unfold knownCap
      rw [if_pos (by rw [Nat.blt_eq]; omega)]
      exact hl
    · have hj' : j < zs.length := by simp at hj; omega
      have := hcell j hj'
      rw [add_plain] at this
      simp only [aloadO, aadd]
      rw [oldOf_some this rfl]
      simp [List.getD_eq_getElem?_getD, hj']
    · rw [List.length_take, Nat.min_eq_left hlen]
      exact Nat.le_trans (Nat.mul_le_mul_right _ hl) hmax
end Go.Itp
/-
  Arguments of more kinds: lists of strings, of bools, of lists; structures of such.
-/
namespace Go.Itp
open Go.ChangeShapes Go.WideShapes

/-- what the interpreter holds in place of what a cell of old memory holds -/
def absV : Value → Value
  | .slice (some ⟨b, o, some k⟩) 0 0 => .complex .f32 b (enc2 o k)
  | v => v
theorem Rd.of_map {α : Type} {old : Nat → Nat → Option Value} {h : Heap} {f : α → Value} {v : Value} {l : List α} (r : Rd old h (fun x : Value => x) v (l.map f)) : Rd old h f v l := by
  rcases r.is with ⟨a, c, rfl, h1, h2⟩ | ⟨h1, h2⟩
  · refine ⟨Or.inl ⟨a, c, by simp, by simpa using h1, ?_⟩⟩
    rcases h2 with ⟨rfl, h2⟩ | ⟨ad, rfl, h2, h3⟩
    · exact Or.inl ⟨rfl, by simpa using h2⟩
    · exact Or.inr ⟨ad, rfl, h2, fun k hk => by have := h3 k (by simpa using hk); simpa using this⟩
  · exact ⟨Or.inr ⟨by simpa using h1, h2⟩⟩
section
variable {H : Type} {enc : TypeId × Value → H} {P : Program} {W : World} {base : Nat} {held : Bool}
/-- a slice whose elements lie in one cell each -/
theorem rd_raw {t e : TypeId} {fuel : Nat} {v : Value} {x : DataW H × List MemPlace} (ht : P.underlying t = some (.slice e)) (hc : P.cellsOf e = 1) (hby : 0 < P.bytesOf e)
    (h : DataW.trod enc P W base (fun _ => true) held fuel t [v] = some x) (hsz : ∀ n ∈ x.1.weights P t, n ≤ reachBytes)
    (habs : ∀ (c : Value) (n : Nat) (y : DataW H × List MemPlace), DataW.trod enc P W base (fun _ => true) held n e [c] = some y → ∀ b o, W.cell? ⟨b, o, none⟩ = some c → oldOf W b o = some (absV c)) :
    ∃ cs : List Value, (∀ h, Rd (oldOf W) h (fun x : Value => x) (absV v) (cs.map absV)) ∧ bidN (absV v) = 0 ∧ (∀ c ∈ cs, ∃ n y, DataW.trod enc P W base (fun _ => true) held n e [c] = some y ∧ ∀ m ∈ y.1.weights P e, m ≤ reachBytes) ∧ cs.length * P.bytesOf e ≤ reachBytes := by
  rcases DataW.trod_slice ht h with ⟨h1, _⟩ | ⟨a, len, cap, elems, rest, n, rfl, h1, rfl, hb, hl, hm, hlen, hel, hsp, _⟩
  · simp only [List.cons.injEq, and_true] at h1
    subst h1
    exact ⟨[], fun h => Rd.nil, rfl, by simp, by simp⟩
  · simp only [List.cons.injEq, and_true] at h1
    subst h1
    obtain ⟨hr1, hr2⟩ := hsp rfl
    have hmax : cap * P.bytesOf e ≤ reachBytes := by
      have := hsz ((elems.length + rest.length) * P.bytesOf e) (by simp [DataW.weights, ht])
      rwa [show elems.length + rest.length = cap by omega] at this
    have hcap : cap ≤ cap * P.bytesOf e := Nat.le_mul_of_pos_right _ hby
    have hbig : reachBytes < big := by decide
    have hone : ∀ i, i < len → ∃ c y, W.cell? (a.add i) = some c ∧ DataW.trod enc P W base (fun _ => true) held n e [c] = some y ∧ elems[i]? = some y := fun i hi => by
      have := hel i hi
      rw [hc, Nat.mul_one, List.getElem?_eq_getElem (by omega)] at this
      simp only [Option.bind_eq_some_iff] at this
      obtain ⟨cs, h2, h3⟩ := this
      unfold World.cells? at h2
      split at h2
      · simp only [List.range_one, List.mapM_cons, List.mapM_nil] at h2
        cases hq : W.cell? ((a.add i).add 0) with
        | none => rw [hq] at h2; cases h2
        | some c =>
          rw [hq] at h2
          have e0 : (a.add i).add 0 = a.add i := rfl
          rw [e0] at hq
          have : cs = [c] := by simpa using h2.symm
          subst this
          exact ⟨c, elems[i], hq, h3, List.getElem?_eq_getElem (by omega)⟩
      · cases h2
    by_cases hz : cap = 0
    · have hl0 : len = 0 := by omega
      subst hz hl0
      refine ⟨[], fun h => ?_, ?_, by simp, by simp⟩
      · obtain ⟨b, o, sp⟩ := a
        cases sp with
        | none => exact ⟨Or.inl ⟨some ⟨b, o, none⟩, 0, rfl, by simp, Or.inr ⟨⟨b, o, none⟩, rfl, fun i hi => by simp [bidA] at hi, fun k hk => by simp at hk⟩⟩⟩
        | some k => exact Rd.odd _ _ _
      · obtain ⟨b, o, sp⟩ := a
        cases sp <;> rfl
    · have habsv : absV (.slice (some a) len cap) = .slice (some a) len cap := by
        obtain ⟨b, o, sp⟩ := a
        cases sp with
        | none => rfl
        | some k =>
          unfold absV
          split
          · rename_i heq
            simp only [Value.slice.injEq] at heq
            exact (hz heq.2.2).elim
          · rfl
      have hspot : a.spot = none := by
        have hcell : ∃ c, W.cell? (a.add 0) = some c := by
          by_cases h0 : 0 < len
          · obtain ⟨c, _, h, _⟩ := hone 0 h0; exact ⟨c, h⟩
          · have := hr2 0 (by omega)
            rw [hc, Nat.mul_one, List.getElem?_eq_getElem (by omega)] at this
            simp only [Option.bind_eq_some_iff] at this
            obtain ⟨cs, h2, _⟩ := this
            unfold World.cells? at h2
            split at h2
            · simp only [List.range_one, List.mapM_cons, List.mapM_nil] at h2
              cases hq : W.cell? ((a.add (len + 0)).add 0) with
              | none => rw [hq] at h2; cases h2
              | some c => exact ⟨c, by rw [show len + 0 = 0 by omega] at hq; exact hq⟩
            · cases h2
        obtain ⟨c, hcell⟩ := hcell
        rw [show a.add 0 = a from rfl] at hcell
        cases hsp : a.spot with
        | none => rfl
        | some s =>
          simp only [World.cell?] at hcell
          split at hcell
          · simp [hsp] at hcell
          · cases hcell
      rw [habsv]
      obtain ⟨b, o, sp⟩ := a
      simp only at hspot
      subst hspot
      let cs := (List.range len).map fun i => (W.cell? ⟨b, o + i, none⟩).getD undef
      have hcs : ∀ i (hi : i < len), W.cell? ⟨b, o + i, none⟩ = some (cs[i]?.getD undef) ∧ ∃ y, DataW.trod enc P W base (fun _ => true) held n e [cs[i]?.getD undef] = some y ∧ elems[i]? = some y := fun i hi => by
        obtain ⟨c, y, h2, h3, h4⟩ := hone i hi
        rw [add_plain] at h2
        have : cs[i]?.getD undef = c := by simp [cs, hi, h2]
        rw [this]
        exact ⟨h2, y, h3, h4⟩
      have hlc : cs.length = len := by simp [cs]
      refine ⟨cs, fun h => ⟨Or.inl ⟨some ⟨b, o, none⟩, cap, by simp [hlc], ?_, Or.inr ⟨⟨b, o, none⟩, rfl, fun i hi => by simp [bidA] at hi, fun k hk => ?_⟩⟩⟩, rfl, fun c hc' => ?_, ?_⟩
      · unfold knownCap
        rw [if_pos (by rw [Nat.blt_eq]; omega)]
        simpa [hlc] using hl
      · have hk' : k < len := by simpa [hlc] using hk
        obtain ⟨h2, y, h3, _⟩ := hcs k hk'
        have := habs _ _ _ h3 _ _ h2
        simp only [aloadO, aadd]
        rw [this]
        have hkc : k < cs.length := by omega
        simp [hkc]
      · obtain ⟨i, hi, rfl⟩ := List.getElem_of_mem hc'
        obtain ⟨_, y, h3, h4⟩ := hcs i (by omega)
        refine ⟨n, y, by simpa [hi] using h3, fun m hm' => hsz m ?_⟩
        have hmem : y ∈ elems := List.mem_of_getElem? h4
        simp only [DataW.weights, ht, List.mem_cons, List.mem_append]
        right; left
        clear hsz
        have : ∀ l : List (DataW H × List MemPlace), y ∈ l → m ∈ DataW.weightsAll P e (l.map (·.1)) := by
          intro l
          induction l with
          | nil => intro h; cases h
          | cons z l ih =>
            intro hz'
            simp only [List.map_cons, DataW.weightsAll, List.mem_append]
            rcases List.mem_cons.1 hz' with rfl | hz'
            · exact Or.inl hm'
            · exact Or.inr (ih hz')
        exact this elems hmem
      · rw [hlc]
        exact Nat.le_trans (Nat.mul_le_mul_right _ hl) hmax
theorem abs_plain {b o : Nat} {c : Value} (h : W.cell? ⟨b, o, none⟩ = some c) (hid : ids 0 c = []) (ha : absV c = c) : oldOf W b o = some (absV c) := by
  rw [ha]; exact oldOf_some h hid
theorem map_of {α : Type} (f : α → Value) : ∀ (cs : List Value), (∀ c ∈ cs, ∃ a, c = f a ∧ absV (f a) = f a) → ∃ l : List α, cs.map absV = l.map f ∧ cs = l.map f
  | [], _ => ⟨[], rfl, rfl⟩
  | c :: cs, h => by
    obtain ⟨a, rfl, ha⟩ := h c (by simp)
    obtain ⟨l, h1, h2⟩ := map_of f cs fun c hc => h c (by simp [hc])
    exact ⟨a :: l, by simp [ha, h1], by simp [h2]⟩
/-- a list of strings -/
theorem rd_strings' {t e : TypeId} {fuel : Nat} {v : Value} {x : DataW H × List MemPlace} (ht : P.underlying t = some (.slice e)) (he : P.underlying e = some .string) (hc : P.cellsOf e = 1) (hby : 0 < P.bytesOf e)
    (h : DataW.trod enc P W base (fun _ => true) held fuel t [v] = some x) (hsz : ∀ n ∈ x.1.weights P t, n ≤ reachBytes) :
    ∃ l : List ByteArray, (∀ h, Rd (oldOf W) h Value.string (absV v) l) ∧ bidN (absV v) = 0 ∧ (∀ j, j < l.length → l[j]!.size ≤ reachBytes) ∧ l.length * P.bytesOf e ≤ reachBytes := by
  obtain ⟨cs, h1, h2, h3, h4⟩ := rd_raw ht hc hby h hsz fun c n y hy b o hcell => by
    obtain ⟨s, h5, _⟩ := DataW.trod_string he hy
    simp only [List.cons.injEq, and_true] at h5
    subst h5
    exact abs_plain hcell rfl rfl
  have hstr : ∀ c ∈ cs, ∃ s : ByteArray, c = .string s ∧ s.size ≤ reachBytes := fun c hc' => by
    obtain ⟨n, y, hy, hw⟩ := h3 c hc'
    obtain ⟨s, h5, h6, _⟩ := DataW.trod_string he hy
    simp only [List.cons.injEq, and_true] at h5
    subst h6
    exact ⟨s, h5, by have := hw s.data.toList.length (by simp [DataW.weights]); simpa using this⟩
  obtain ⟨l, hl1, hl2⟩ := map_of Value.string cs fun c hc' => by
    obtain ⟨s, h5, _⟩ := hstr c hc'
    exact ⟨s, h5, rfl⟩
  refine ⟨l, fun h => Rd.of_map (by rw [← hl1]; exact h1 h), h2, fun j hj => ?_, by rw [hl2] at h4; simpa using h4⟩
  have hm : Value.string l[j]! ∈ cs := by rw [hl2, getElem!_pos l j hj]; exact List.mem_map_of_mem (List.getElem_mem hj)
  obtain ⟨s, h5, h6⟩ := hstr _ hm
  cases h5
  exact h6
/-- a list of numbers -/
theorem rd_ints' {t e : TypeId} {k : IntKind} {fuel : Nat} {v : Value} {x : DataW H × List MemPlace} (ht : P.underlying t = some (.slice e)) (he : P.underlying e = some (.int k)) (hc : P.cellsOf e = 1) (hby : 0 < P.bytesOf e)
    (h : DataW.trod enc P W base (fun _ => true) held fuel t [v] = some x) (hsz : ∀ n ∈ x.1.weights P t, n ≤ reachBytes) :
    ∃ l : List Int, (∀ h, Rd (oldOf W) h (Value.int k) (absV v) l) ∧ bidN (absV v) = 0 ∧ (∀ z ∈ l, (Lit.int k z).wf = true) ∧ l.length * P.bytesOf e ≤ reachBytes := by
  obtain ⟨cs, h1, h2, h3, h4⟩ := rd_raw ht hc hby h hsz fun c n y hy b o hcell => by
    obtain ⟨s, h5, _⟩ := DataW.trod_int he hy
    simp only [List.cons.injEq, and_true] at h5
    subst h5
    exact abs_plain hcell rfl rfl
  have hstr : ∀ c ∈ cs, ∃ z : Int, c = .int k z ∧ (Lit.int k z).wf = true := fun c hc' => by
    obtain ⟨n, y, hy, _⟩ := h3 c hc'
    obtain ⟨s, h5, h6, h7⟩ := DataW.trod_int he hy
    simp only [List.cons.injEq, and_true] at h5
    exact ⟨s, h5, h7⟩
  obtain ⟨l, hl1, hl2⟩ := map_of (Value.int k) cs fun c hc' => by
    obtain ⟨s, h5, _⟩ := hstr c hc'
    exact ⟨s, h5, rfl⟩
  refine ⟨l, fun h => Rd.of_map (by rw [← hl1]; exact h1 h), h2, fun z hz => ?_, by rw [hl2] at h4; simpa using h4⟩
  obtain ⟨s, h5, h6⟩ := hstr (.int k z) (by rw [hl2]; exact List.mem_map_of_mem hz)
  cases h5
  exact h6
/-- a list of lists of numbers -/
theorem rd_rows {t e q : TypeId} {k : IntKind} {fuel : Nat} {v : Value} {x : DataW H × List MemPlace} (ht : P.underlying t = some (.slice e)) (he : P.underlying e = some (.slice q)) (hq : P.underlying q = some (.int k)) (hc : P.cellsOf e = 1) (hby : 0 < P.bytesOf e)
    (hcq : P.cellsOf q = 1) (hbq : 0 < P.bytesOf q) (h : DataW.trod enc P W base (fun _ => true) held fuel t [v] = some x) (hsz : ∀ n ∈ x.1.weights P t, n ≤ reachBytes) :
    ∃ (rs : List Value) (L : List (List Int)), (∀ h, Rd (oldOf W) h (fun x : Value => x) (absV v) rs) ∧ bidN (absV v) = 0 ∧ rs.length = L.length ∧ rs.length * P.bytesOf e ≤ reachBytes ∧
      ∀ j, j < L.length → (∀ h, Rd (oldOf W) h (Value.int k) rs[j]! L[j]!) ∧ bidN rs[j]! = 0 ∧ (∀ z ∈ L[j]!, (Lit.int k z).wf = true) ∧ L[j]!.length * P.bytesOf q ≤ reachBytes := by
  obtain ⟨cs, h1, h2, h3, h4⟩ := rd_raw ht hc hby h hsz fun c n y hy b o hcell => by
    rcases DataW.trod_slice he hy with ⟨h5, _⟩ | ⟨a, len, cap, elems, rest, n', rfl, h5, rfl, hb, hl, hm, hlen, hel, hsp, _⟩
    · simp only [List.cons.injEq, and_true] at h5
      subst h5
      exact abs_plain hcell rfl rfl
    · simp only [List.cons.injEq, and_true] at h5
      subst h5
      obtain ⟨hr1, hr2⟩ := hsp rfl
      obtain ⟨b', o', sp⟩ := a
      cases sp with
      | none => exact abs_plain hcell rfl rfl
      | some s =>
        by_cases hz : cap = 0
        · have hl0 : len = 0 := by omega
          subst hz hl0
          exact oldOf_odd hcell
        · exfalso
          have hcell0 : ∃ c, W.cell? (⟨b', o', some s⟩ : Addr) = some c := by
            by_cases h0 : 0 < len
            · have := hel 0 h0
              rw [hcq, Nat.mul_one, List.getElem?_eq_getElem (by omega)] at this
              simp only [Option.bind_eq_some_iff] at this
              obtain ⟨cs, h6, _⟩ := this
              unfold World.cells? at h6
              split at h6
              · simp only [List.range_one, List.mapM_cons, List.mapM_nil] at h6
                cases hq' : W.cell? (((⟨b', o', some s⟩ : Addr).add 0).add 0) with
                | none => rw [hq'] at h6; cases h6
                | some c => exact ⟨c, hq'⟩
              · cases h6
            · have := hr2 0 (by omega)
              rw [hcq, Nat.mul_one, List.getElem?_eq_getElem (by omega), show len + 0 = 0 by omega] at this
              simp only [Option.bind_eq_some_iff] at this
              obtain ⟨cs, h6, _⟩ := this
              unfold World.cells? at h6
              split at h6
              · simp only [List.range_one, List.mapM_cons, List.mapM_nil] at h6
                cases hq' : W.cell? (((⟨b', o', some s⟩ : Addr).add 0).add 0) with
                | none => rw [hq'] at h6; cases h6
                | some c => exact ⟨c, hq'⟩
              · cases h6
          obtain ⟨c, hcell0⟩ := hcell0
          simp only [World.cell?] at hcell0
          split at hcell0
          · simp at hcell0
          · cases hcell0
  have each : ∀ cs : List Value, (∀ c ∈ cs, ∃ n y, DataW.trod enc P W base (fun _ => true) held n e [c] = some y ∧ ∀ m ∈ y.1.weights P e, m ≤ reachBytes) →
      ∃ L : List (List Int), cs.length = L.length ∧ ∀ j, j < L.length → (∀ h, Rd (oldOf W) h (Value.int k) (cs.map absV)[j]! L[j]!) ∧ bidN (cs.map absV)[j]! = 0 ∧ (∀ z ∈ L[j]!, (Lit.int k z).wf = true) ∧ L[j]!.length * P.bytesOf q ≤ reachBytes := by
    intro cs
    induction cs with
    | nil => intro _; exact ⟨[], rfl, fun j hj => by simp at hj⟩
    | cons c cs ih =>
      intro hall
      obtain ⟨L, hL1, hL2⟩ := ih fun c hc => hall c (by simp [hc])
      obtain ⟨n, y, hy, hw⟩ := hall c (by simp)
      obtain ⟨l, l1, l2, l3, l4⟩ := rd_ints' he hq hcq hbq hy hw
      refine ⟨l :: L, by simp [hL1], fun j hj => ?_⟩
      cases j with
      | zero => exact ⟨by simpa using l1, by simpa using l2, by simpa using l3, by simpa using l4⟩
      | succ j => simpa using hL2 j (by simpa using hj)
  obtain ⟨L, hL1, hL2⟩ := each cs h3
  exact ⟨cs.map absV, L, h1, h2, by simp [hL1], by simpa using h4, hL2⟩
end
section
variable {H : Type} {enc : TypeId × Value → H} {P : Program} {W : World} {base : Nat} {held : Bool}
theorem okWide_spot {r : Reach} {b : Nat} {u : TypeId} {a : Addr} {n c : Nat} (h : Cell.okWide P W r b u (.slice (some a) n c)) : a.spot = none := by
  unfold Cell.okWide at h
  split at h
  all_goals first | (rename_i heq; cases heq; done) | skip
  unfold Cell.ok at h
  split at h
  all_goals first | (rename_i heq; cases heq; done) | skip
  · rename_i e a' len cap _ heq
    cases heq
    exact h.2.2.2.1
  · exact h.elim
theorem abs_ok {r : Reach} {b : Nat} {u : TypeId} {v : Value} (h : Cell.okWide P W r b u v) : absV v = v := by
  unfold absV
  split
  · rename_i b' o k
    have := okWide_spot h
    cases this
  · rfl
/-- an argument that is a structure of three parts, of one cell each -/
theorem open_three {t : TypeId} {f0 f1 f2 : Field} {b : Nat} {v : Value} {d : DataW H} {ps : List MemPlace} (ht : P.underlying t = some (.struct #[f0, f1, f2])) (o0 : f0.offset = 0) (o1 : f1.offset = 1) (o2 : f2.offset = 2)
    (c0 : P.cellsOf f0.type = 1) (c1 : P.cellsOf f1.type = 1) (c2 : P.cellsOf f2.type = 1) (ct : P.cellsOf t = 3) (hv : Value.okWide P W .any b t v) (h : DataW.Trod enc P W base (fun _ => true) held t v d ps) (hsz : ∀ n ∈ d.weights P t, n ≤ reachBytes) :
    ∃ (n : Nat) (a0 a1 a2 : Value) (y0 y1 y2 : DataW H × List MemPlace), v = .agg [a0, a1, a2].toArray ∧ absV a0 = a0 ∧ absV a1 = a1 ∧ absV a2 = a2 ∧
      DataW.trod enc P W base (fun _ => true) held n f0.type [a0] = some y0 ∧ DataW.trod enc P W base (fun _ => true) held n f1.type [a1] = some y1 ∧ DataW.trod enc P W base (fun _ => true) held n f2.type [a2] = some y2 ∧
      (∀ m ∈ y0.1.weights P f0.type, m ≤ reachBytes) ∧ (∀ m ∈ y1.1.weights P f1.type, m ≤ reachBytes) ∧ ∀ m ∈ y2.1.weights P f2.type, m ≤ reachBytes := by
  unfold Value.okWide at hv
  rw [ht] at hv
  obtain ⟨cs, rfl, hcs, ts, _, _, hrow⟩ := hv
  rw [ct] at hcs
  obtain ⟨l⟩ := cs
  simp only [List.size_toArray] at hcs
  obtain ⟨a0, a1, a2, rfl⟩ : ∃ a0 a1 a2, l = [a0, a1, a2] := by
    rcases l with _ | ⟨a0, _ | ⟨a1, _ | ⟨a2, _ | ⟨a3, l⟩⟩⟩⟩ <;> simp at hcs
    exact ⟨a0, a1, a2, rfl⟩
  obtain ⟨n, hn⟩ := h
  cases n with
  | zero => simp [DataW.trod] at hn
  | succ n =>
    have habs : ∀ i c, ([a0, a1, a2] : List Value)[i]? = some c → absV c = c := fun i c hc => by
      obtain ⟨u, _, hu⟩ := hrow i c (by simpa using hc)
      exact abs_ok hu
    unfold DataW.trod at hn
    simp only [ht, Value.cells] at hn
    rw [if_pos (by simp [ct])] at hn
    simp only [Option.map_eq_some_iff, List.mapM_cons, List.mapM_nil] at hn
    obtain ⟨xs, hx, hd⟩ := hn
    simp only [o0, o1, o2, c0, c1, c2, List.drop_zero, List.drop_succ_cons, List.take_succ_cons, List.take_zero] at hx
    cases h0 : DataW.trod enc P W base (fun _ => true) held n f0.type [a0] with
    | none => simp [h0] at hx
    | some y0 =>
      cases h1 : DataW.trod enc P W base (fun _ => true) held n f1.type [a1] with
      | none => simp [h0, h1] at hx
      | some y1 =>
        cases h2 : DataW.trod enc P W base (fun _ => true) held n f2.type [a2] with
        | none => simp [h0, h1, h2] at hx
        | some y2 =>
          have hxs : xs = [y0, y1, y2] := by simpa [h0, h1, h2] using hx.symm
          subst hxs
          simp only [Prod.mk.injEq] at hd
          obtain ⟨rfl, rfl⟩ := hd
          have hw : ∀ m, (m ∈ y0.1.weights P f0.type ∨ m ∈ y1.1.weights P f1.type ∨ m ∈ y2.1.weights P f2.type) → m ≤ reachBytes := fun m hm => hsz m (by
            simp only [DataW.weights, ht, List.map_cons, List.map_nil, DataW.weightsEach, List.mem_append]
            rcases hm with hm | hm | hm
            · exact Or.inl hm
            · exact Or.inr (Or.inl hm)
            · exact Or.inr (Or.inr (Or.inl hm)))
          exact ⟨n, a0, a1, a2, y0, y1, y2, rfl, habs 0 _ rfl, habs 1 _ rfl, habs 2 _ rfl, h0, h1, h2, fun m hm => hw m (Or.inl hm), fun m hm => hw m (Or.inr (Or.inl hm)), fun m hm => hw m (Or.inr (Or.inr hm))⟩
theorem abs_ids {a : Value} (h : absV a = a) (hb : bidN a = 0) (hs : ∃ x y z, a = .slice x y z) : ids 0 a = [] := by
  obtain ⟨x, y, z, rfl⟩ := hs
  rcases x with _ | ⟨b, o, _ | k⟩
  · rfl
  · rfl
  · simp [bidN, bidA] at hb
end
section
variable {H : Type} {enc : TypeId × Value → H} {P : Program} {W : World} {base : Nat} {held : Bool}
theorem trod_is_slice {t e : TypeId} {n : Nat} {v : Value} {x : DataW H × List MemPlace} (ht : P.underlying t = some (.slice e)) (h : DataW.trod enc P W base (fun _ => true) held n t [v] = some x) : ∃ a b c, v = .slice a b c := by
  rcases DataW.trod_slice ht h with ⟨h1, _⟩ | ⟨a, len, cap, _, _, _, _, h1, _⟩
  · exact ⟨_, _, _, by simpa using h1⟩
  · exact ⟨_, _, _, by simpa using h1⟩
theorem okWide_one {t : TypeId} {b : Nat} {v : Value} (ht : ∀ fs, P.underlying t ≠ some (.struct fs)) (ht' : ∀ n e, P.underlying t ≠ some (.array n e)) (hv : Value.okWide P W .any b t v) : Cell.okWide P W .any b t v := by
  unfold Value.okWide at hv
  split at hv
  · rename_i fs h; exact (ht fs h).elim
  · rename_i n e h; exact (ht' n e h).elim
  · exact hv
theorem open_str {t : TypeId} {b : Nat} {v : Value} {d : DataW H} {ps : List MemPlace} (ht : P.underlying t = some .string) (hv : Value.okWide P W .any b t v) (h : DataW.Trod enc P W base (fun _ => true) held t v d ps) (hsz : ∀ n ∈ d.weights P t, n ≤ reachBytes) :
    ∃ s : ByteArray, v = .string s ∧ s.size ≤ reachBytes := by
  have hc := okWide_one (by simp [ht]) (by simp [ht]) hv
  obtain ⟨n, hn⟩ := h
  obtain ⟨s, h1, h2, _⟩ := DataW.trod_string ht hn
  have hv' : v = .string s := by
    unfold Cell.okWide at hc
    simp only [ht, Cell.ok] at hc
    cases v <;> first | (exfalso; simp at hc; done) | (simpa [Value.cells] using h1)
  simp only [Prod.mk.injEq] at h2
  exact ⟨s, hv', by have := hsz s.data.toList.length (by rw [h2.1]; simp [DataW.weights]); simpa using this⟩
theorem open_num {t : TypeId} {k : IntKind} {b : Nat} {v : Value} {d : DataW H} {ps : List MemPlace} (ht : P.underlying t = some (.int k)) (hv : Value.okWide P W .any b t v) (h : DataW.Trod enc P W base (fun _ => true) held t v d ps) :
    ∃ z : Int, v = .int k z ∧ (Lit.int k z).wf = true := by
  have hc := okWide_one (by simp [ht]) (by simp [ht]) hv
  obtain ⟨n, hn⟩ := h
  obtain ⟨z, h1, _, h2⟩ := DataW.trod_int ht hn
  refine ⟨z, ?_, h2⟩
  unfold Cell.okWide at hc
  simp only [ht, Cell.ok] at hc
  cases v <;> first | (exfalso; simp at hc; done) | (simpa [Value.cells] using h1)
theorem open_flag {t : TypeId} {b : Nat} {v : Value} {d : DataW H} {ps : List MemPlace} (ht : P.underlying t = some .bool) (hv : Value.okWide P W .any b t v) (h : DataW.Trod enc P W base (fun _ => true) held t v d ps) :
    ∃ z : Bool, v = .bool z := by
  have hc := okWide_one (by simp [ht]) (by simp [ht]) hv
  obtain ⟨n, hn⟩ := h
  obtain ⟨z, h1, _⟩ := DataW.trod_bool ht hn
  refine ⟨z, ?_⟩
  unfold Cell.okWide at hc
  simp only [ht, Cell.ok] at hc
  cases v <;> first | (exfalso; simp at hc; done) | (simpa [Value.cells] using h1)
theorem wf64 {z : Int} (h : (Lit.int .i64 z).wf = true) : -9223372036854775808 ≤ z ∧ z ≤ 9223372036854775807 := by
  simp [Lit.wf, IntKind.min, IntKind.max, IntKind.signed, IntKind.bits] at h
  omega
theorem weights_at {ts : List TypeId} {ds : List (DataW H)} (h : (DataW.weightsEach P ts ds).all (· ≤ reachBytes) = true) {j : Nat} {t : TypeId} {d : DataW H} (ht : ts[j]? = some t) (hd : ds[j]? = some d) : ∀ n ∈ d.weights P t, n ≤ reachBytes := fun n hn => by
  have := List.all_eq_true.1 h n (DataW.weights_mem_each ht hd n hn)
  simpa using this
end
end Go.Itp
