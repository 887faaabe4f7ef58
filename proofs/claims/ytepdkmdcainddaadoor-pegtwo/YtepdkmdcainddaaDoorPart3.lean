/- What is proved: the law PegTwo returns true for every input. Conditions: none beyond the card's own.
   Texts: Walk4, Lib, Lib2, WalkW, Strs, WW, Shell, Shell2, Shell3.
-/
import Derived.Test.YtepdkmdcainddaaDoorPart2
import Derived.ChangeSame
import Derived.ChangeReads
import Derived.ChangeSlices
import Derived.SliceStrings
import Derived.ChangeShapes
import Derived.WideShapes
import Derived.ProofKit
import Derived.OpenShut
import Derived.SizedLaws
/-
  Calls, results, slices that grow, stores: for computing with unknowns.
-/
namespace Go.Itp

/-! ### results -/
def RetX (o : Option (List Value)) (n0 : Nat) (h : Heap) (Q : Value → List Blk → Prop) : Prop := ∃ vs v bs, o = some vs ∧ gc n0 h (tupleOf vs) = some (v, bs) ∧ Q v bs
def RetP (E : Env) (res : List (Nat × Option (Option Nat))) (n0 : Nat) (Q : Value → List Blk → Prop) : Ex → Fr → St → Prop
  | .exit _, _, _ => False
  | _, fr, s => RetX (resOf E fr s res) n0 s.heap Q
theorem retP_ret (E res n0 Q fr s) : RetP E res n0 Q .ret fr s = RetX (resOf E fr s res) n0 s.heap Q := rfl
theorem retP_normal (E res n0 Q fr s) : RetP E res n0 Q .normal fr s = RetX (resOf E fr s res) n0 s.heap Q := rfl
theorem resOf_nil (E : Env) (fr : Fr) (s : St) : resOf E fr s [] = some [] := rfl
theorem resOf_tmp (E : Env) (fr : Fr) (s : St) (t : Nat) (r : List (Nat × Option (Option Nat))) : resOf E fr s ((t, none) :: r) = consO (fget fr t) (resOf E fr s r) := by
  simp only [resOf]
  cases fget fr t <;> cases resOf E fr s r <;> rfl
theorem resOf_cell (E : Env) (fr : Fr) (s : St) (t : Nat) (g : Option Nat) (r : List (Nat × Option (Option Nat))) : resOf E fr s ((t, some g) :: r) = consO (op1 (loadA E s.heap g) (fget fr t)) (resOf E fr s r) := by
  simp only [resOf]
  cases fget fr t with
  | none => rfl
  | some v =>
    cases v with
    | pointer a =>
      cases a with
      | none => simp [op1, loadA, consO]
      | some a =>
        simp only [Option.bind_some, op1, loadA]
        cases loadG E s.heap a g with
        | none => simp [consO]
        | some u => cases resOf E fr s r <;> simp [consO]
    | _ => simp [op1, loadA, consO]
theorem tupleOf_one (v : Value) : tupleOf [v] = v := rfl
theorem tupleOf_two (a b : Value) (r : List Value) : tupleOf (a :: b :: r) = .tuple (a :: b :: r).toArray := rfl
theorem retX_some (vs : List Value) (n0 : Nat) (h : Heap) (Q) : RetX (some vs) n0 h Q = ∃ v bs, gc n0 h (tupleOf vs) = some (v, bs) ∧ Q v bs := by
  apply propext
  constructor
  · rintro ⟨_, v, bs, h1, h2, h3⟩
    cases h1
    exact ⟨v, bs, h2, h3⟩
  · rintro ⟨v, bs, h2, h3⟩
    exact ⟨_, v, bs, rfl, h2, h3⟩

theorem gc_none {n0 : Nat} {h : Heap} {v : Value} (hv : ids n0 v = []) : gc n0 h v = some (v, []) := by
  unfold gc; rw [hv]
theorem renTo_lt {n0 : Nat} {ord : List Nat} : ∀ i, i < n0 → renTo n0 ord i = i := fun i hi => by
  unfold renTo; rw [if_pos (by rw [Nat.blt_eq]; exact hi)]
theorem gc_one {n0 i : Nat} {h : Heap} {v : Value} {b : Blk} (hv : ids n0 v = [i]) (hb : hget h i = some b) (hc : idsL n0 b.cells = []) : gc n0 h v = some (ren (renTo n0 [i]) v, [b]) := by
  unfold gc
  rw [hv]
  have h1 : reach n0 h 1000000 [i] [] = some [i] := by
    show reach n0 h (999999 + 1) [i] [] = some [i]
    simp only [reach, elemB, hb, Option.bind_some, hc, List.nil_append]
    simp
  simp only [reachA, h1, Option.bind_some, List.reverse_cons, List.reverse_nil, List.nil_append, pickUp, hb, Option.map_some]
  rw [renL_id (n0 := n0) (fun j hj => renTo_lt j hj) _ hc]
theorem gc_two {n0 i j : Nat} {h : Heap} {v : Value} {b c : Blk} (hv : ids n0 v = [i, j]) (hij : ¬ i = j) (hb : hget h i = some b) (hc : hget h j = some c) (hb0 : idsL n0 b.cells = []) (hc0 : idsL n0 c.cells = []) :
    gc n0 h v = some (ren (renTo n0 [i, j]) v, [b, c]) := by
  unfold gc
  rw [hv]
  have h1 : reach n0 h 1000000 [i, j] [] = some [j, i] := by
    show reach n0 h (999998 + 1 + 1) [i, j] [] = some [j, i]
    have e2 : Nat.beq j i = false := by rw [Bool.eq_false_iff]; exact fun h => hij (nbeq.1 h).symm
    simp [reach, elemB, hb, hc, hb0, hc0, e2]
  simp only [reachA, h1, Option.bind_some, List.reverse_cons, List.reverse_nil, List.nil_append, List.cons_append, pickUp, hb, hc, Option.map_some]
  rw [renL_id (n0 := n0) (fun j hj => renTo_lt j hj) _ hc0, renL_id (n0 := n0) (fun j hj => renTo_lt j hj) _ hb0]
theorem gc_int (n0 : Nat) (h : Heap) (k : IntKind) (z : Int) : gc n0 h (.int k z) = some (.int k z, []) := rfl
theorem gc_bool (n0 : Nat) (h : Heap) (b : Bool) : gc n0 h (.bool b) = some (.bool b, []) := rfl
theorem gc_string (n0 : Nat) (h : Heap) (b : ByteArray) : gc n0 h (.string b) = some (.string b, []) := rfl
theorem gc_nil_int (n0 : Nat) (h : Heap) (n c : Nat) (k : IntKind) (z : Int) : gc n0 h (.tuple [.slice none n c, .int k z].toArray) = some (.tuple [.slice none n c, .int k z].toArray, []) := rfl
theorem gc_int_int (n0 : Nat) (h : Heap) (k j : IntKind) (z y : Int) : gc n0 h (.tuple [.int k z, .int j y].toArray) = some (.tuple [.int k z, .int j y].toArray, []) := rfl
theorem gc_string_int (n0 : Nat) (h : Heap) (b : ByteArray) (k : IntKind) (z : Int) : gc n0 h (.tuple [.string b, .int k z].toArray) = some (.tuple [.string b, .int k z].toArray, []) := rfl
theorem ids_int (n0 : Nat) (k : IntKind) (z : Int) : ids n0 (.int k z) = [] := rfl
theorem ids_bool (n0 : Nat) (b : Bool) : ids n0 (.bool b) = [] := rfl
theorem ids_string (n0 : Nat) (b : ByteArray) : ids n0 (.string b) = [] := rfl
theorem ids_tuple (n0 : Nat) (l : List Value) : ids n0 (.tuple l.toArray) = idsL n0 l := rfl
theorem ids_agg (n0 : Nat) (l : List Value) : ids n0 (.agg l.toArray) = idsL n0 l := rfl
theorem ids_nil (n0 n c : Nat) : ids n0 (.slice none n c) = [] := rfl
theorem ids_slice (n0 i o p n c : Nat) (h : n0 ≤ i) : ids n0 (.slice (some ⟨i, o, some p⟩) n c) = [i] := by simp [ids, addrIds, h]
theorem ids_pointer (n0 i o p : Nat) (h : n0 ≤ i) : ids n0 (.pointer (some ⟨i, o, some p⟩)) = [i] := by simp [ids, addrIds, h]
theorem ids_nilp (n0 : Nat) : ids n0 (.pointer none) = [] := rfl
theorem ids_nili (n0 : Nat) : ids n0 .nilIface = [] := rfl
theorem ids_low {n0 : Nat} {v : Value} (a : Option Addr) (n c : Nat) (hv : v = .slice a n c) (h : bidN v ≤ n0) : ids n0 v = [] := by
  subst hv
  rcases a with _ | ⟨b, o, sp⟩
  · rfl
  · cases sp with
    | none => rfl
    | some p => simp [bidN, bidA] at h; simp [ids, addrIds]; omega
theorem idsL_nil (n0 : Nat) : idsL n0 [] = [] := rfl
theorem idsL_cons (n0 : Nat) (v : Value) (l : List Value) : idsL n0 (v :: l) = ids n0 v ++ idsL n0 l := rfl
theorem idsL_map {α : Type} {f : α → Value} {n0 : Nat} (hf : ∀ x, ids n0 (f x) = []) : ∀ l : List α, idsL n0 (l.map f) = []
  | [] => rfl
  | x :: l => by simp [idsL, hf, idsL_map hf l]
theorem ren_int (g : Nat → Nat) (k : IntKind) (z : Int) : ren g (.int k z) = .int k z := rfl
theorem ren_bool (g : Nat → Nat) (b : Bool) : ren g (.bool b) = .bool b := rfl
theorem ren_string (g : Nat → Nat) (b : ByteArray) : ren g (.string b) = .string b := rfl
theorem ren_nil (g : Nat → Nat) (n c : Nat) : ren g (.slice none n c) = .slice none n c := rfl
theorem ren_tuple (g : Nat → Nat) (l : List Value) : ren g (.tuple l.toArray) = .tuple (renL g l).toArray := rfl
theorem ren_agg (g : Nat → Nat) (l : List Value) : ren g (.agg l.toArray) = .agg (renL g l).toArray := rfl
theorem renL_nil (g : Nat → Nat) : renL g [] = [] := rfl
theorem renL_cons (g : Nat → Nat) (v : Value) (l : List Value) : renL g (v :: l) = ren g v :: renL g l := rfl
theorem ren_slice (g : Nat → Nat) (i o p n c : Nat) : ren g (.slice (some ⟨i, o, some p⟩) n c) = .slice (some ⟨g i, o, some p⟩) n c := rfl
theorem renTo_one (n0 i : Nat) (h : n0 ≤ i) : renTo n0 [i] i = n0 := by
  unfold renTo; rw [if_neg (by rw [Nat.blt_eq]; omega)]; simp [indexOf]
theorem renTo_fst (n0 i j : Nat) (h : n0 ≤ i) : renTo n0 [i, j] i = n0 := by
  unfold renTo; rw [if_neg (by rw [Nat.blt_eq]; omega)]; simp [indexOf]
theorem renTo_snd (n0 i j : Nat) (h : n0 ≤ j) (hij : ¬ j = i) : renTo n0 [i, j] j = n0 + 1 := by
  unfold renTo; rw [if_neg (by rw [Nat.blt_eq]; omega)]
  have : Nat.beq j i = false := by rw [Bool.eq_false_iff]; exact fun h => hij (nbeq.1 h)
  simp [indexOf, this]

theorem gc_slice {n0 i o p n c : Nat} {h : Heap} {b : Blk} (hi : n0 ≤ i) (hb : hget h i = some b) (hc : idsL n0 b.cells = []) :
    gc n0 h (.slice (some ⟨i, o, some p⟩) n c) = some (.slice (some ⟨n0, o, some p⟩) n c, [b]) := by
  rw [gc_one (ids_slice n0 i o p n c hi) hb hc, ren_slice, renTo_one n0 i hi]
theorem gc_slice_int {n0 i o p n c : Nat} {h : Heap} {b : Blk} {k : IntKind} {z : Int} (hi : n0 ≤ i) (hb : hget h i = some b) (hc : idsL n0 b.cells = []) :
    gc n0 h (.tuple [.slice (some ⟨i, o, some p⟩) n c, .int k z].toArray) = some (.tuple [.slice (some ⟨n0, o, some p⟩) n c, .int k z].toArray, [b]) := by
  rw [gc_one (by rw [ids_tuple, idsL_cons, ids_slice n0 i o p n c hi]; rfl) hb hc, ren_tuple, renL_cons, ren_slice, renTo_one n0 i hi]
  rfl
def gcO (o : Option (List Value)) (n0 : Nat) (h : Heap) : Option (Value × List Blk) := o.bind fun vs => gc n0 h (tupleOf vs)
theorem gcO_some (vs : List Value) (n0 : Nat) (h : Heap) : gcO (some vs) n0 h = gc n0 h (tupleOf vs) := rfl
def RetE (E : Env) (res : List (Nat × Option (Option Nat))) (n0 : Nat) (r : Option (Value × List Blk)) : Ex → Fr → St → Prop
  | .exit _, _, _ => False
  | _, fr, s => gcO (resOf E fr s res) n0 s.heap = r
theorem retE_ret (E res n0 r fr s) : RetE E res n0 r .ret fr s = (gcO (resOf E fr s res) n0 s.heap = r) := rfl
theorem retE_normal (E res n0 r fr s) : RetE E res n0 r .normal fr s = (gcO (resOf E fr s res) n0 s.heap = r) := rfl
/-! ### calls -/
section
variable {old : Nat → Nat → Option Value} {r : Nat} {fns : FuncId → Option AFun} {prims : FuncId → List Value → St → Option (Value × List Blk)} {n : Nat} {f : FuncId} {xs : List Value} {s : St} {code : AC} {nt : Nat} {res : List (Nat × Option (Option Nat))}
theorem body_of {E : Env} {af : AFun} {Q : Value → List Blk → Prop} {n0 : Nat} (hlen : xs.length ≤ af.n) (h : Does (go E af.code [] (args0 0 xs) s) (RetP E af.res n0 Q)) :
    ∃ u s', body E af xs s = some (u, s') ∧ ∃ v bs, gc n0 s'.heap u = some (v, bs) ∧ Q v bs := by
  obtain ⟨ex, fr, s', he, hq⟩ := h
  have key : RetX (resOf E fr s' af.res) n0 s'.heap Q → (match ex with | .exit _ => False | _ => True) → ∃ u s', body E af xs s = some (u, s') ∧ ∃ v bs, gc n0 s'.heap u = some (v, bs) ∧ Q v bs := by
    rintro ⟨vs, v, bs, h1, h2, h3⟩ hx
    refine ⟨tupleOf vs, s', ?_, v, bs, h2, h3⟩
    unfold body
    rw [if_pos (by rw [Nat.ble_eq]; exact hlen), exec_go, he]
    cases ex with
    | exit i => exact hx.elim
    | normal => simp [h1]
    | ret => simp [h1]
  cases ex with
  | exit i => exact hq.elim
  | normal => exact key hq trivial
  | ret => exact key hq trivial
theorem pcall_ex {Q : Value → List Blk → Prop} (hf : fns f = some ⟨code, nt, res, true⟩) (hp : prims f xs s = none) (hlen : xs.length ≤ nt)
    (h : Does (go (callP old r fns prims n) code [] (args0 0 xs) ⟨s.heap, s.next, s.next⟩) (RetP (callP old r fns prims n) res s.next Q)) : ∃ v bs, (callP old r fns prims (n + 1)).pcall f xs s = some (v, bs) ∧ Q v bs := by
  obtain ⟨u, s', hb, v, bs, hg, hq⟩ := body_of (af := ⟨code, nt, res, true⟩) hlen h
  refine ⟨v, bs, ?_, hq⟩
  simp only [callP, hp, hf, Option.bind_some, if_true, hb, hg]
theorem pcall_eq {v : Value} {bs : List Blk} (hf : fns f = some ⟨code, nt, res, true⟩) (hp : prims f xs s = none) (hlen : xs.length ≤ nt)
    (h : Does (go (callP old r fns prims n) code [] (args0 0 xs) ⟨s.heap, s.next, s.next⟩) (RetE (callP old r fns prims n) res s.next (some (v, bs)))) : (callP old r fns prims (n + 1)).pcall f xs s = some (v, bs) := by
  have h' : Does (go (callP old r fns prims n) code [] (args0 0 xs) ⟨s.heap, s.next, s.next⟩) (RetP (callP old r fns prims n) res s.next fun v' bs' => v' = v ∧ bs' = bs) := by
    refine h.mono fun ex fr t hq => ?_
    have key : gcO (resOf (callP old r fns prims n) fr t res) s.next t.heap = some (v, bs) → RetX (resOf (callP old r fns prims n) fr t res) s.next t.heap fun v' bs' => v' = v ∧ bs' = bs := fun h => by
      unfold gcO at h
      cases ho : resOf (callP old r fns prims n) fr t res with
      | none => rw [ho] at h; cases h
      | some vs => rw [ho] at h; exact ⟨vs, v, bs, rfl, h, rfl, rfl⟩
    cases ex with
    | exit i => exact hq.elim
    | normal => exact key hq
    | ret => exact key hq
  obtain ⟨v', bs', h1, rfl, rfl⟩ := pcall_ex hf hp hlen h'
  exact h1
theorem pcall_imp {af : AFun} (hf : fns f = some af) (hpu : af.pure = false) (hp : prims f xs s = none) : (callP old r fns prims (n + 1)).pcall f xs s = none := by
  simp [callP, hp, hf, hpu]
def RetW (E : Env) (res : List (Nat × Option (Option Nat))) (Q : Value → St → Prop) : Ex → Fr → St → Prop
  | .exit _, _, _ => False
  | _, fr, s => ∃ vs, resOf E fr s res = some vs ∧ Q (tupleOf vs) s
def RetWX (o : Option (List Value)) (s : St) (Q : Value → St → Prop) : Prop := ∃ vs, o = some vs ∧ Q (tupleOf vs) s
theorem retW_ret (E res Q fr s) : RetW E res Q .ret fr s = RetWX (resOf E fr s res) s Q := rfl
theorem retW_normal (E res Q fr s) : RetW E res Q .normal fr s = RetWX (resOf E fr s res) s Q := rfl
theorem retWX_some (vs : List Value) (s : St) (Q) : RetWX (some vs) s Q = Q (tupleOf vs) s := by
  apply propext
  constructor
  · rintro ⟨_, h, q⟩
    cases h
    exact q
  · exact fun q => ⟨_, rfl, q⟩
theorem body_w {E : Env} {af : AFun} {Q : Value → St → Prop} (hlen : xs.length ≤ af.n) (h : Does (go E af.code [] (args0 0 xs) s) (RetW E af.res Q)) : ∃ v s', body E af xs s = some (v, s') ∧ Q v s' := by
  obtain ⟨ex, fr, s', he, hq⟩ := h
  cases ex with
  | exit i => exact hq.elim
  | normal =>
    obtain ⟨vs, h1, h2⟩ := hq
    exact ⟨_, s', by unfold body; rw [if_pos (by rw [Nat.ble_eq]; exact hlen), exec_go, he]; simp [h1], h2⟩
  | ret =>
    obtain ⟨vs, h1, h2⟩ := hq
    exact ⟨_, s', by unfold body; rw [if_pos (by rw [Nat.ble_eq]; exact hlen), exec_go, he]; simp [h1], h2⟩
theorem wcall_ex {Q : Value → St → Prop} (hf : fns f = some ⟨code, nt, res, false⟩) (hlen : xs.length ≤ nt)
    (h : Does (go (callP old r fns prims n) code [] (args0 0 xs) s) (RetW (callP old r fns prims n) res Q)) : ∃ v s', (callP old r fns prims (n + 1)).wcall f xs s = some (v, s') ∧ Q v s' := by
  obtain ⟨v, s', hb, hq⟩ := body_w (af := ⟨code, nt, res, false⟩) hlen h
  refine ⟨v, s', ?_, hq⟩
  simp [callP, hf, hb]
end

/-! ### stores -/
def storeB (o : Option Blk) (s : St) (i k : Nat) (v : Value) : Option (Value × St) :=
  match o with
  | some b => if Nat.ble s.prot i && oneCell v && Nat.blt k b.cells.length then some (.tuple #[], ⟨hset s.heap i { b with cells := b.cells.set k v }, s.next, s.prot⟩) else none
  | none => none
theorem lput_one (v : Value) : ∀ (cs : List Value) (k : Nat), k < cs.length → lput cs k [v] = some (cs.set k v)
  | [], k, h => by simp at h
  | c :: cs, 0, _ => by simp [lput]
  | c :: cs, k + 1, h => by simp [lput, lput_one v cs k (by simpa using h)]
theorem cells_one {v : Value} (h : oneCell v = true) : v.cells.toList = [v] := by
  cases v <;> first | rfl | (simp [oneCell] at h)
theorem store_new (s : St) (i k p : Nat) (v : Value) (e g t) (cs : List Value) (hh : hget s.heap i = some ⟨cs, e, g, t⟩) (h0 : s.prot ≤ i) (hv : oneCell v = true) (hk : k < cs.length) :
    storeA s 1 (.pointer (some ⟨i, k, some p⟩)) v = some (.tuple #[], ⟨hset s.heap i ⟨cs.set k v, e, g, t⟩, s.next, s.prot⟩) := by
  have e1 : Nat.beq 1 1 = true := rfl
  have e2 : Nat.ble s.prot i = true := by rw [Nat.ble_eq]; exact h0
  simp only [storeA, cells_one hv, astore, List.length_singleton, e1, e2, if_true]
  simp [hh, hv, lput_one v cs k hk]
theorem storeA_new (s : St) (i k p : Nat) (v : Value) (hv : oneCell v = true) (h0 : s.prot ≤ i) : storeA s 1 (.pointer (some ⟨i, k, some p⟩)) v = storeB (hget s.heap i) s i k v := by
  have e1 : Nat.beq 1 1 = true := rfl
  have e2 : Nat.ble s.prot i = true := by rw [Nat.ble_eq]; exact h0
  simp only [storeA, cells_one hv, astore, List.length_singleton, e1, e2, if_true]
  cases hh : hget s.heap i with
  | none => simp [storeB]
  | some b =>
    by_cases hk : k < b.cells.length
    · simp [storeB, hv, lput_one v b.cells k hk, h0, hk]
    · have : lput b.cells k [v] = none := by
        have key : ∀ (cs : List Value) (k : Nat), ¬ k < cs.length → lput cs k [v] = none := by
          intro cs
          induction cs with
          | nil => intro k _; rfl
          | cons c cs ih =>
            intro k hk
            cases k with
            | zero => simp at hk
            | succ k => simp [lput, ih k (by simpa using hk)]
        exact key _ _ hk
      simp [storeB, hv, this, hk]
theorem storeB_some (cs : List Value) (e g t) (s : St) (i k : Nat) (v : Value) (h0 : s.prot ≤ i) (hv : oneCell v = true) (hk : k < cs.length) :
    storeB (some ⟨cs, e, g, t⟩) s i k v = some (.tuple #[], ⟨hset s.heap i ⟨cs.set k v, e, g, t⟩, s.next, s.prot⟩) := by
  simp [storeB, h0, hv, hk]
theorem one_int (k : IntKind) (z : Int) : oneCell (.int k z) = true := rfl
theorem one_bool (b : Bool) : oneCell (.bool b) = true := rfl
theorem one_string (b : ByteArray) : oneCell (.string b) = true := rfl
theorem one_slice (a n c) : oneCell (.slice a n c) = true := rfl
theorem one_pointer (a) : oneCell (.pointer a) = true := rfl
theorem hset_hset (h : Heap) (i : Nat) (a b : Blk) : hset (hset h i a) i b = hset h i b := by
  induction h with
  | nil => rfl
  | cons p r ih =>
    obtain ⟨k, u⟩ := p
    simp only [hset]
    by_cases hk : i = k
    · rw [if_pos (nbeq.2 hk), if_pos (nbeq.2 hk)]; simp [hset, hk]
    · rw [if_neg (by rw [nbeq]; exact hk), if_neg (by rw [nbeq]; exact hk)]
      simp only [hset]
      rw [if_neg (by rw [nbeq]; exact hk), ih]
def loadB (o : Option Blk) (k : Nat) : Option Value := match o with | some b => lget b.cells k | none => none
theorem loadO_new (old : Nat → Nat → Option Value) (h : Heap) (i k p : Nat) : loadO old h (.pointer (some ⟨i, k, some p⟩)) = loadB (hget h i) k := by
  simp only [loadO, aloadO, loadB]
  cases hget h i <;> rfl
theorem loadB_some (b : Blk) (k : Nat) : loadB (some b) k = lget b.cells k := rfl
theorem lget_map {α : Type} [Inhabited α] (f : α → Value) (l : List α) (k : Nat) (hk : k < l.length) : lget (l.map f) k = some (f l[k]!) := by
  rw [lget_eq, List.getElem?_map, List.getElem?_eq_getElem hk, getElem!_pos l k hk]; rfl

/-! ### slices that grow -/
def delO (h : Heap) : Value → Heap
  | .slice (some ⟨i, _, some _⟩) _ c => if c < big then h else hdel h i
  | _ => h
/-- a slice that an append may move: nil, an empty literal, or one that an append has made -/
structure Own (lo : Nat) (s : St) (t : TypeId) (e : Nat) (v : Value) (n : Nat) (cs : List Value) : Prop where
  is : (v = .slice none 0 0 ∧ n = 0 ∧ cs = []) ∨ ∃ i, lo ≤ i ∧ i < s.next ∧ s.prot ≤ i ∧
    ((v = .slice (some ⟨i, 0, some 0⟩) 0 0 ∧ n = 0 ∧ cs = [] ∧ ∃ b, hget s.heap i = some b) ∨
     (v = .slice (some ⟨i, 0, some 0⟩) n (big + n) ∧ cs.length = n * e ∧ hget s.heap i = some ⟨cs, e, true, t⟩))
section
variable {lo : Nat} {s : St} {t : TypeId} {e : Nat} {v : Value} {n : Nat} {cs : List Value}
theorem Own.nil : Own lo s t e (.slice none 0 0) 0 [] := ⟨Or.inl ⟨rfl, rfl, rfl⟩⟩
theorem Own.mk' {i : Nat} (h1 : lo ≤ i) (h2 : i < s.next) (h3 : s.prot ≤ i) (h4 : cs.length = n * e) (h5 : hget s.heap i = some ⟨cs, e, true, t⟩) : Own lo s t e (.slice (some ⟨i, 0, some 0⟩) n (big + n)) n cs :=
  ⟨Or.inr ⟨i, h1, h2, h3, Or.inr ⟨rfl, h4, h5⟩⟩⟩
theorem Own.bid (o : Own lo s t e v n cs) : bidN v ≤ s.next := by
  rcases o.is with ⟨rfl, _⟩ | ⟨i, _, h, _, ⟨rfl, _⟩ | ⟨rfl, _⟩⟩
  · simp [bidN, bidA]
  · simp [bidN, bidA]; omega
  · simp [bidN, bidA]; omega
theorem Own.bid2 (o : Own lo s t e v n cs) : bidN v = 0 ∨ lo < bidN v := by
  rcases o.is with ⟨rfl, _⟩ | ⟨i, h1, h, _, ⟨rfl, _⟩ | ⟨rfl, _⟩⟩
  · exact Or.inl rfl
  · right; simp [bidN, bidA]; omega
  · right; simp [bidN, bidA]; omega
theorem Own.to (o : Own lo s t e v n cs) {s' : St} (hn : s.next ≤ s'.next) (hp : s'.prot = s.prot) (hh : ∀ i, bidN v = i + 1 → hget s'.heap i = hget s.heap i) : Own lo s' t e v n cs := by
  refine ⟨?_⟩
  rcases o.is with h | ⟨i, h1, h2, h3, ⟨rfl, h4, h5, h6⟩ | ⟨rfl, h4, h5⟩⟩
  · exact Or.inl h
  · exact Or.inr ⟨i, h1, by omega, by omega, Or.inl ⟨rfl, h4, h5, by rw [hh i rfl]; exact h6⟩⟩
  · exact Or.inr ⟨i, h1, by omega, by omega, Or.inr ⟨rfl, h4, by rw [hh i rfl]; exact h5⟩⟩
theorem Own.push (o : Own lo s t e v n cs) (bs : List Blk) {s' : St} (hs : s' = ⟨hpush s.heap s.next bs, s.next + bs.length, s.prot⟩) : Own lo s' t e v n cs := by
  subst hs
  exact o.to (by simp) rfl fun i hi => hget_push_lt _ _ _ _ (by have := o.bid; omega)
theorem Own.app {E : Env} (o : Own lo s t e v n cs) {y : Value} {m b : Nat} {new : List Value} (hy : lenA y = some m) (hm : 1 ≤ m) (hs : srcCells E s.heap e m y = some new) (h1 : new.all oneCell = true)
    (hr : n + m ≤ room) (hrb : (n + m) * b ≤ room) :
    appX E s t e b v y = some (.slice (some ⟨s.next, 0, some 0⟩) (n + m) (big + (n + m)), ⟨hpush (delO s.heap v) s.next [⟨cs ++ new, e, true, t⟩], s.next + 1, s.prot⟩) := by
  have hm0 : Nat.beq m 0 = false := by rw [Bool.eq_false_iff]; exact fun h => by have := nbeq.1 h; omega
  have hbig : room < big := by decide
  rcases o.is with ⟨rfl, rfl, rfl⟩ | ⟨i, g1, g2, g3, ⟨rfl, rfl, rfl, bl, g6⟩ | ⟨rfl, g4, g5⟩⟩
  · have e1 : (Nat.ble (0 + m) room && Nat.ble ((0 + m) * b) room && Nat.blt 0 big && Nat.blt 0 (0 + m)) = true := by simp only [Bool.and_eq_true, Nat.ble_eq, Nat.blt_eq]; omega
    have e2 : srcCells E s.heap e 0 (.slice none 0 0) = some [] := rfl
    simp only [appX, appP, hy, Option.bind_some, hm0, e1, hs, e2, Option.map_some, delO]
    rfl
  · have e1 : (Nat.ble (0 + m) room && Nat.ble ((0 + m) * b) room && Nat.blt 0 big && Nat.blt 0 (0 + m)) = true := by simp only [Bool.and_eq_true, Nat.ble_eq, Nat.blt_eq]; omega
    have e2 : srcCells E s.heap e 0 (.slice (some ⟨i, 0, some 0⟩) 0 0) = some [] := by simp [srcCells, aloadN, g6, ltake]
    simp only [appX, appP, hy, Option.bind_some, hm0, e1, hs, e2, Option.map_some, delO]
    rfl
  · have e1 : (Nat.ble (n + m) room && Nat.ble ((n + m) * b) room && Nat.blt (big + n) big && Nat.blt (big + n) (n + m)) = false := by
      have : Nat.blt (big + n) big = false := by rw [Bool.eq_false_iff]; intro h; rw [Nat.blt_eq] at h; omega
      simp [this]
    have e2 : (Nat.ble (n + m) room && Nat.ble ((n + m) * b) room) = true := by simp only [Bool.and_eq_true, Nat.ble_eq]; omega
    have e3 : Nat.blt (big + n) big = false := by rw [Bool.eq_false_iff]; intro h; rw [Nat.blt_eq] at h; omega
    have e4 : Nat.ble s.prot i = true := by rw [Nat.ble_eq]; exact g3
    have e5 : (true && Nat.beq t t && Nat.beq e e && Nat.beq (0 + n * e) cs.length && Nat.beq (big + n) (big + n)) = true := by simp [g4]
    have e6 : ¬ big + n < big := by omega
    have e7 : aloadN E s.heap ⟨i, 0, some 0⟩ 0 = some [] := by simp [aloadN, g5, ltake]
    simp only [appX, appP, appA, hy, Option.bind_some, hm0, e2, e3, e4, hs, h1, g5, e5, if_true, Bool.false_eq_true, if_false, delO, List.drop_zero, e6]
    simp only [St.push, List.length_singleton, Bool.true_and, Bool.false_and, Bool.false_eq_true, if_false]
theorem Own.app0 {E : Env} (o : Own lo s t e v n cs) {y : Value} {b : Nat} (hy : lenA y = some 0) : appX E s t e b v y = some (v, s) := by
  have hb0 : Nat.beq 0 0 = true := rfl
  rcases o.is with ⟨rfl, rfl, rfl⟩ | ⟨i, g1, g2, g3, ⟨rfl, rfl, rfl, bl, g6⟩ | ⟨rfl, g4, g5⟩⟩
  · simp only [appX, appP, hy, Option.bind_some, hb0, if_true]; rfl
  · simp only [appX, appP, hy, Option.bind_some, hb0, if_true]; rfl
  · have : Nat.ble n (knownCap (big + n)) = true := by
      rw [Nat.ble_eq]; unfold knownCap
      rw [if_neg (by rw [Nat.blt_eq]; omega)]; omega
    simp only [appX, appP, hy, Option.bind_some, hb0, if_true, this]; rfl
/-- an append of one element, as 'append(s, x)' is written -/
theorem Own.app1 {E : Env} (o : Own lo s t 1 v n cs) {b j : Nat} {c : Value} {bl : Blk} (hs : hget s.heap j = some bl) (hc : bl.cells = [c]) (h1 : oneCell c = true) (hr : n + 1 ≤ room) (hrb : (n + 1) * b ≤ room) :
    appX E s t 1 b v (.slice (some ⟨j, 0, some 0⟩) 1 1) = some (.slice (some ⟨s.next, 0, some 0⟩) (n + 1) (big + (n + 1)), ⟨hpush (delO s.heap v) s.next [⟨cs ++ [c], 1, true, t⟩], s.next + 1, s.prot⟩) :=
  o.app rfl (Nat.le_refl _) (by simp [srcCells, aloadN, hs, hc, ltake]) (by simp [h1]) hr hrb
theorem hget_delO (h : Heap) (v : Value) (j : Nat) (hj : ¬ bidN v = j + 1) : hget (delO h v) j = hget h j := by
  unfold delO
  split
  · rename_i i o p n c
    split
    · rfl
    · exact hget_del_ne _ _ _ (by simp [bidN, bidA] at hj; omega)
  · rfl
theorem HX.delO {m : Nat} {h0 h : Heap} (hx : HX m h0 h) {v : Value} (hv : bidN v = 0 ∨ m < bidN v) : HX m h0 (delO h v) := fun j hj => by
  rw [hget_delO _ _ _ (by omega), hx j hj]
/-- behind an append -/
theorem Own.grown {h : Heap} {nx p : Nat} (h4 : cs.length = n * e) (hlo : lo ≤ nx) (hp : p ≤ nx) : Own lo ⟨hpush h nx [⟨cs, e, true, t⟩], nx + 1, p⟩ t e (.slice (some ⟨nx, 0, some 0⟩) n (big + n)) n cs :=
  Own.mk' hlo (Nat.lt_succ_self _) hp h4 (hget_push_one _ _ _ _ rfl)
theorem Own.len (o : Own lo s t e v n cs) : lenX false v = some (.int .i64 n) := by
  rcases o.is with ⟨rfl, rfl, rfl⟩ | ⟨i, g1, g2, g3, ⟨rfl, rfl, rfl, bl, g6⟩ | ⟨rfl, g4, g5⟩⟩ <;> rfl
theorem Own.rd {α : Type} {f : α → Value} {l : List α} {old : Nat → Nat → Option Value} (o : Own lo s t 1 v l.length (l.map f)) : Rd old s.heap f v l := by
  rcases o.is with ⟨rfl, h1, h2⟩ | ⟨i, g1, g2, g3, ⟨rfl, h1, h2, bl, g6⟩ | ⟨rfl, g4, g5⟩⟩
  · have : l = [] := List.length_eq_zero_iff.1 h1
    subst this; exact Rd.nil
  · have : l = [] := List.length_eq_zero_iff.1 h1
    subst this
    exact ⟨Or.inl ⟨_, 0, rfl, by simp, Or.inr ⟨_, rfl, fun j hj => by simp [bidA] at hj; subst hj; exact ⟨bl, g6⟩, fun k hk => by simp at hk⟩⟩⟩
  · exact Rd.newb g5 rfl rfl (by unfold knownCap; rw [if_neg (by rw [Nat.blt_eq]; omega)]; omega)
end

/-! ### what a function returns that appended to a slice of its own -/
def newV (nx n : Nat) : Value := if n = 0 then .slice none 0 0 else .slice (some ⟨nx, 0, some 0⟩) n (big + n)
def newB (t : TypeId) (e n : Nat) (cs : List Value) : List Blk := if n = 0 then [] else [⟨cs, e, true, t⟩]
theorem newB_le (t : TypeId) (e n : Nat) (cs : List Value) : (newB t e n cs).length ≤ 1 := by unfold newB; split <;> simp
theorem newV_bid (nx n : Nat) (t : TypeId) (e : Nat) (cs : List Value) : bidN (newV nx n) ≤ nx + (newB t e n cs).length := by
  unfold newV newB; split <;> simp [bidN, bidA]
theorem newV_bid2 (nx n : Nat) : bidN (newV nx n) = 0 ∨ bidN (newV nx n) = nx + 1 := by
  unfold newV; split <;> simp [bidN, bidA]
theorem Rd.newV {α : Type} {old : Nat → Nat → Option Value} {f : α → Value} (h : Heap) (nx : Nat) (t : TypeId) (l : List α) : Rd old (hpush h nx (newB t 1 l.length (l.map f))) f (newV nx l.length) l := by
  unfold Itp.newV newB
  by_cases h0 : l.length = 0
  · have : l = [] := List.length_eq_zero_iff.1 h0
    subst this; exact Rd.nil
  · rw [if_neg h0, if_neg h0]
    exact Rd.newb (hget_push_one _ _ _ _ rfl) rfl rfl (by unfold knownCap; rw [if_neg (by rw [Nat.blt_eq]; omega)]; omega)
theorem Own.gc {n0 : Nat} {s : St} {t : TypeId} {e : Nat} {v : Value} {n : Nat} {cs : List Value} (o : Own n0 s t e v n cs) (hn : n = 0 → v = .slice none 0 0) (hc : idsL n0 cs = []) :
    gc n0 s.heap v = some (newV n0 n, newB t e n cs) := by
  unfold newV newB
  by_cases h0 : n = 0
  · rw [if_pos h0, if_pos h0, hn h0]; rfl
  · rw [if_neg h0, if_neg h0]
    rcases o.is with ⟨rfl, h1, h2⟩ | ⟨i, g1, g2, g3, ⟨rfl, h1, h2, bl, g6⟩ | ⟨rfl, g4, g5⟩⟩
    · exact (h0 h1).elim
    · exact (h0 h1).elim
    · exact gc_slice g1 g5 hc
theorem Own.gc_int {n0 : Nat} {s : St} {t : TypeId} {e : Nat} {v : Value} {n : Nat} {cs : List Value} (o : Own n0 s t e v n cs) (hn : n = 0 → v = .slice none 0 0) (hc : idsL n0 cs = []) (k : IntKind) (z : Int) :
    Itp.gc n0 s.heap (.tuple [v, .int k z].toArray) = some (.tuple [newV n0 n, .int k z].toArray, newB t e n cs) := by
  unfold newV newB
  by_cases h0 : n = 0
  · rw [if_pos h0, if_pos h0, hn h0]; rfl
  · rw [if_neg h0, if_neg h0]
    rcases o.is with ⟨rfl, h1, h2⟩ | ⟨i, g1, g2, g3, ⟨rfl, h1, h2, bl, g6⟩ | ⟨rfl, g4, g5⟩⟩
    · exact (h0 h1).elim
    · exact (h0 h1).elim
    · exact gc_slice_int g1 g5 hc
/-- such a result, handed on -/
theorem gc_newV {n0 nx n : Nat} {h : Heap} {t : TypeId} {e : Nat} {cs : List Value} (hn : n0 ≤ nx) (hc : idsL n0 cs = []) (k : IntKind) (z : Int) :
    gc n0 (hpush h nx (newB t e n cs)) (.tuple [newV nx n, .int k z].toArray) = some (.tuple [newV n0 n, .int k z].toArray, newB t e n cs) := by
  unfold newV newB
  by_cases h0 : n = 0
  · rw [if_pos h0, if_pos h0, if_pos h0]; rfl
  · rw [if_neg h0, if_neg h0, if_neg h0]
    exact gc_slice_int hn (hget_push_one _ _ _ _ rfl) hc

/-! ### rows that are written out -/
theorem Rd.one {α : Type} {old : Nat → Nat → Option Value} {h : Heap} {f : α → Value} {v : Value} {l : List α} (r : Rd old h f v l) : oneCell v = true := by
  rcases r.is with ⟨a, c, rfl, _⟩ | ⟨rfl, k, b, n, rfl⟩ <;> rfl
theorem row0 (nx : Nat) (t : TypeId) (e : Nat) (z : List Value) : mkRowA nx t e 0 z [] = some (.slice (some ⟨nx, 0, some 0⟩) 0 0, [⟨[], e, false, t⟩]) := rfl
theorem row1 (nx : Nat) (t : TypeId) (z v : Value) (hv : oneCell v = true) : mkRowA nx t 1 1 [z] [(0, 1, v)] = some (.slice (some ⟨nx, 0, some 0⟩) 1 1, [⟨[v], 1, false, t⟩]) := by
  have e : (Nat.beq 1 1 && Nat.ble (0 + 1) 1) = true := rfl
  simp [mkRowA, fillA, rep, cells_one hv, lput]
theorem row2 (nx : Nat) (t : TypeId) (z u v : Value) (hu : oneCell u = true) (hv : oneCell v = true) : mkRowA nx t 1 2 [z] [(0, 1, u), (1, 1, v)] = some (.slice (some ⟨nx, 0, some 0⟩) 2 2, [⟨[u, v], 1, false, t⟩]) := by
  simp [mkRowA, fillA, rep, cells_one hu, cells_one hv, lput]
theorem row3 (nx : Nat) (t : TypeId) (z u v x : Value) (hu : oneCell u = true) (hv : oneCell v = true) (hx : oneCell x = true) : mkRowA nx t 1 3 [z] [(0, 1, u), (1, 1, v), (2, 1, x)] = some (.slice (some ⟨nx, 0, some 0⟩) 3 3, [⟨[u, v, x], 1, false, t⟩]) := by
  simp [mkRowA, fillA, rep, cells_one hu, cells_one hv, cells_one hx, lput]
theorem Own.appRow {lo h nx p t v n cs} (o : Own lo ⟨h, nx, p⟩ t 1 v n cs) {E : Env} {b : Nat} {c : Value} {t' : TypeId} {g : Bool} (h1 : oneCell c = true) (hr : n + 1 ≤ 1099511627776) (hrb : (n + 1) * b ≤ 1099511627776) :
    appX E ⟨hpush h nx [⟨[c], 1, g, t'⟩], nx + 1, p⟩ t 1 b v (.slice (some ⟨nx, 0, some 0⟩) 1 1) =
      some (.slice (some ⟨nx + 1, 0, some 0⟩) (n + 1) (big + (n + 1)), ⟨hpush (delO (hpush h nx [⟨[c], 1, g, t'⟩]) v) (nx + 1) [⟨cs ++ [c], 1, true, t⟩], nx + 1 + 1, p⟩) :=
  (o.push [⟨[c], 1, g, t'⟩] rfl).app1 (hget_push_one _ _ _ _ rfl) rfl h1 hr hrb

/-! ### rows of numbers in place -/
theorem expand_one (n : Nat) (v : Value) : expand [(n, v)] = List.replicate n v := by simp [expand]
theorem rep_one (v : Value) : ∀ n, rep [v] n = List.replicate n v
  | 0 => rfl
  | n + 1 => by simp [rep, rep_one v n, List.replicate_succ]
theorem replicate_int (n : Nat) (z : Int) : List.replicate n (Value.int .i64 z) = (List.replicate n z).map (Value.int .i64) := by simp
theorem replicate_bool (n : Nat) (b : Bool) : List.replicate n (Value.bool b) = (List.replicate n b).map Value.bool := by simp
theorem mkSlice_one (nx : Nat) (t : TypeId) (b : Nat) (v : Value) (k j : IntKind) (l c : Int) (h0 : 0 ≤ l) (h1 : l ≤ c) (h2 : c * b ≤ 1099511627776) (h3 : c ≤ 1099511627776) :
    mkSliceA nx t 1 b [v] (.int k l) (.int j c) = some (.slice (some ⟨nx, 0, some 0⟩) l.toNat c.toNat, [⟨List.replicate c.toNat v, 1, false, t⟩]) := by
  have : (0 ≤ l ∧ l ≤ c ∧ c * b ≤ room ∧ c ≤ room) := ⟨h0, h1, by unfold room; omega, by unfold room; omega⟩
  simp only [mkSliceA, if_pos this, rep_one]
theorem idxS_new (b o : Nat) (sp : Option Nat) (n c : Nat) (k : IntKind) (z : Int) (h0 : 0 ≤ z) (h1 : z < n) : idxSA 1 (.slice (some ⟨b, o, sp⟩) n c) (.int k z) = some (.pointer (some ⟨b, o + z.toNat, sp⟩)) := by
  simp [idxSA, idxNat_in k z n h0 h1, aadd]
theorem idxA_new (b o : Nat) (sp : Option Nat) (n : Nat) (k : IntKind) (z : Int) (h0 : 0 ≤ z) (h1 : z < n) : idxAA n 1 (.pointer (some ⟨b, o, sp⟩)) (.int k z) = some (.pointer (some ⟨b, o + z.toNat, sp⟩)) := by
  simp [idxAA, idxNat_in k z n h0 h1, aadd]
theorem len_slice (a : Option Addr) (n c : Nat) : lenX false (.slice a n c) = some (.int .i64 n) := rfl
theorem hget_set_self (h : Heap) (i : Nat) (b : Blk) : hget (hset h i b) i = (hget h i).map fun _ => b := by
  induction h with
  | nil => rfl
  | cons p r ih =>
    obtain ⟨k, u⟩ := p
    simp only [hset]
    by_cases hk : i = k
    · rw [if_pos (nbeq.2 hk)]; simp [hget, hk]
    · rw [if_neg (by rw [nbeq]; exact hk)]
      simp only [hget]
      rw [if_neg (by rw [nbeq]; exact hk), if_neg (by rw [nbeq]; exact hk), ih]
theorem set_map {α : Type} (f : α → Value) (l : List α) (i : Nat) (x : α) : (l.map f).set i (f x) = (l.set i x).map f := (List.map_set ..).symm
theorem set_int (l : List Int) (i : Nat) (x : Int) : (l.map (Value.int .i64)).set i (.int .i64 x) = (l.set i x).map (Value.int .i64) := (List.map_set ..).symm
theorem set_bool (l : List Bool) (i : Nat) (x : Bool) : (l.map Value.bool).set i (.bool x) = (l.set i x).map Value.bool := (List.map_set ..).symm
theorem get_set_eq {α : Type} [Inhabited α] (l : List α) (i : Nat) (x : α) (h : i < l.length) : (l.set i x)[i]! = x := by
  rw [getElem!_pos (l.set i x) i (by simpa using h)]; simp
theorem get_set_ne {α : Type} [Inhabited α] (l : List α) (i j : Nat) (x : α) (h : ¬ i = j) : (l.set i x)[j]! = l[j]! := by
  simp [List.getElem!_eq_getElem?_getD, h]
theorem list_ext {α : Type} [Inhabited α] {l m : List α} (h : l.length = m.length) (hj : ∀ j, j < l.length → l[j]! = m[j]!) : l = m := by
  apply List.ext_getElem h
  intro j h1 h2
  have := hj j h1
  rwa [getElem!_pos l j h1, getElem!_pos m j h2] at this
theorem get_app_l {α : Type} [Inhabited α] (l m : List α) (i : Nat) (h : i < l.length) : (l ++ m)[i]! = l[i]! := by
  rw [getElem!_pos (l ++ m) i (by simp; omega), getElem!_pos l i h, List.getElem_append_left]
theorem get_app_r {α : Type} [Inhabited α] (l m : List α) (i : Nat) (h : l.length ≤ i) (h2 : i < l.length + m.length) : (l ++ m)[i]! = m[i - l.length]! := by
  rw [getElem!_pos (l ++ m) i (by simp; omega), getElem!_pos m (i - l.length) (by omega), List.getElem_append_right h]
theorem get_rep {α : Type} [Inhabited α] (n i : Nat) (x : α) (h : i < n) : (List.replicate n x)[i]! = x := by
  rw [getElem!_pos (List.replicate n x) i (by simpa using h)]; simp
theorem Rd.newS {α : Type} {old : Nat → Nat → Option Value} {h : Heap} {f : α → Value} {i n e : Nat} {g : Bool} {t : TypeId} {l : List α} (hg : hget h i = some ⟨l.map f, e, g, t⟩) (hn : n = l.length) (hb : n < 4611686018427387904) :
    Rd old h f (.slice (some ⟨i, 0, some 0⟩) n n) l := Rd.newb hg rfl hn (by unfold knownCap; rw [if_pos (by rw [Nat.blt_eq]; exact hb)]; exact Nat.le_refl _)

/-! ### a copy, as 'append([]T{}, xs...)' is written -/
def catV (nx n : Nat) : Value := if n = 0 then .slice (some ⟨nx, 0, some 0⟩) 0 0 else .slice (some ⟨nx + 1, 0, some 0⟩) n (big + n)
theorem catV_bid (nx n : Nat) : bidN (catV nx n) = nx + 1 ∨ bidN (catV nx n) = nx + 2 := by
  unfold catV; split <;> simp [bidN, bidA]
theorem catV_le (nx n : Nat) (t : TypeId) (e : Nat) (cs : List Value) : bidN (catV nx n) ≤ nx + 1 + (newB t e n cs).length := by
  unfold catV newB; split <;> simp [bidN, bidA]
theorem app_cat {α : Type} {E : Env} {h h0 : Heap} {nx p : Nat} {f : α → Value} {v : Value} {l : List α} {t t' : TypeId} {b e : Nat} {g : Bool} (hv : Rd E.old h0 f v l) (hx : bidN v ≤ nx ∧ HX nx h0 h) (hp : p ≤ nx) (hf : ∀ x, oneCell (f x) = true) (hr : l.length ≤ 1099511627776) (hrb : l.length * b ≤ 1099511627776) :
    appX E ⟨hpush h nx [⟨[], e, g, t'⟩], nx + 1, p⟩ t 1 b (.slice (some ⟨nx, 0, some 0⟩) 0 0) v =
      some (catV nx l.length, ⟨hpush (hpush h nx [⟨[], e, g, t'⟩]) (nx + 1) (newB t 1 l.length (l.map f)), nx + 1 + (newB t 1 l.length (l.map f)).length, p⟩) := by
  have hv' : Rd E.old (hpush h nx [⟨[], e, g, t'⟩]) f v l := (hv.hx hx.2 hx.1).push _ hx.1
  have ho : Own p ⟨hpush h nx [⟨[], e, g, t'⟩], nx + 1, p⟩ t 1 (.slice (some ⟨nx, 0, some 0⟩) 0 0) 0 [] := ⟨Or.inr ⟨nx, hp, Nat.lt_succ_self _, hp, Or.inl ⟨rfl, rfl, rfl, _, hget_push_one _ _ _ _ rfl⟩⟩⟩
  by_cases h0 : l.length = 0
  · rw [ho.app0 (by rw [hv'.lenA, h0])]
    simp [catV, newB, h0, hpush]
  · rw [ho.app (m := l.length) (new := l.map f) hv'.lenA (by omega) (by
      have := hv'.src l.length (Nat.le_refl _)
      rw [List.take_length] at this
      rw [← this]
      exact srcCells_old E ⟨fun _ _ _ => none, fun _ _ _ => none, E.old, 0⟩ rfl _ _ _ _) (by simp [hf]) (by unfold room; omega) (by rw [Nat.zero_add]; unfold room; exact hrb)]
    simp [catV, newB, h0, delO, big]
theorem Rd.cat {α : Type} {old : Nat → Nat → Option Value} {h : Heap} {nx : Nat} {f : α → Value} {l : List α} {t t' : TypeId} {e : Nat} {g : Bool} :
    Rd old (hpush (hpush h nx [⟨[], e, g, t'⟩]) (nx + 1) (newB t 1 l.length (l.map f))) f (catV nx l.length) l := by
  unfold catV newB
  by_cases h0 : l.length = 0
  · have : l = [] := List.length_eq_zero_iff.1 h0
    subst this
    simp only [List.length_nil, if_true, hpush_nil]
    exact Rd.newb (hget_push_one _ _ _ _ rfl) rfl rfl (by simp)
  · rw [if_neg h0, if_neg h0]
    exact Rd.newb (hget_push_one _ _ _ _ rfl) rfl rfl (by unfold knownCap; rw [if_neg (by rw [Nat.blt_eq]; omega)]; omega)
theorem app_catO {α : Type} {old : Nat → Nat → Option Value} {h : Heap} {f : α → Value} {v : Value} {l : List α} (hv : Rd old h f v l) (hf : ∀ x, oneCell (f x) = true) {E : Env} {nx p : Nat} {t t' : TypeId} {b e : Nat} {g : Bool} (hE : E.old = old) (hx : bidN v ≤ nx) (hp : p ≤ nx)
    (hr : l.length ≤ 1099511627776) (hrb : l.length * b ≤ 1099511627776) :
    appX E ⟨hpush h nx [⟨[], e, g, t'⟩], nx + 1, p⟩ t 1 b (.slice (some ⟨nx, 0, some 0⟩) 0 0) v =
      some (catV nx l.length, ⟨hpush (hpush h nx [⟨[], e, g, t'⟩]) (nx + 1) (newB t 1 l.length (l.map f)), nx + 1 + (newB t 1 l.length (l.map f)).length, p⟩) := by
  subst hE
  exact app_cat hv ⟨hx, HX.refl _ _⟩ hp hf hr hrb
theorem Rd.newV' {α : Type} {old : Nat → Nat → Option Value} {f : α → Value} {h : Heap} {nx : Nat} {t : TypeId} {l : List α} {n : Nat} (hn : n = l.length) : Rd old (hpush h nx (newB t 1 n (l.map f))) f (Itp.newV nx n) l := by
  subst hn; exact Rd.newV h nx t l
end Go.Itp
/-
  Plain facts on lists, read by numbers.
-/
namespace Go.Itp
section
variable {α : Type} [Inhabited α] [DecidableEq α]
theorem lt_succ_cases {P : Nat → Prop} {k : Nat} (h : ∀ j, j < k → P j) (hk : P k) : ∀ j, j < k + 1 → P j := fun j hj => by
  rcases Nat.lt_succ_iff_lt_or_eq.1 hj with h' | rfl
  · exact h j h'
  · exact hk
/-- the first place of an element among the first ones of a list, or -1 -/
def placeG (l : List α) (x : α) : Nat → Int
  | 0 => -1
  | k + 1 => if 0 ≤ placeG l x k then placeG l x k else if l[k]! = x then k else -1
theorem placeG_none {l : List α} {x : α} : ∀ k, (∀ j, j < k → ¬ l[j]! = x) → placeG l x k = -1
  | 0, _ => rfl
  | k + 1, h => by
    simp only [placeG]
    rw [placeG_none k (fun j hj => h j (by omega)), if_neg (by omega), if_neg (h k (by omega))]
theorem placeG_some {l : List α} {x : α} {i : Nat} (hi : l[i]! = x) (h : ∀ j, j < i → ¬ l[j]! = x) : ∀ k, i < k → placeG l x k = i
  | 0, h => by omega
  | k + 1, hk => by
    simp only [placeG]
    by_cases e : i = k
    · subst e; rw [placeG_none i h, if_neg (by omega), if_pos hi]
    · rw [placeG_some hi h k (by omega), if_pos (by omega)]
theorem placeG_or (l : List α) (x : α) (k : Nat) : (placeG l x k = -1 ∧ ∀ j, j < k → ¬ l[j]! = x) ∨ ∃ i, i < k ∧ placeG l x k = i ∧ l[i]! = x ∧ ∀ j, j < i → ¬ l[j]! = x := by
  induction k with
  | zero => exact Or.inl ⟨rfl, by omega⟩
  | succ k ih =>
    rcases ih with ⟨h1, h2⟩ | ⟨i, h1, h2, h3, h4⟩
    · by_cases hx : l[k]! = x
      · exact Or.inr ⟨k, by omega, placeG_some hx h2 _ (by omega), hx, h2⟩
      · exact Or.inl ⟨placeG_none _ (lt_succ_cases h2 hx), lt_succ_cases h2 hx⟩
    · exact Or.inr ⟨i, by omega, placeG_some h3 h4 _ (by omega), h3, h4⟩
theorem placeG_range (l : List α) (x : α) (k : Nat) : -1 ≤ placeG l x k ∧ placeG l x k < k := by
  rcases placeG_or l x k with ⟨h, _⟩ | ⟨i, h1, h2, _⟩ <;> omega
end
theorem take_succ! {α : Type} [Inhabited α] (l : List α) (k : Nat) (h : k < l.length) : l.take (k + 1) = l.take k ++ [l[k]!] := by
  rw [List.take_succ_eq_append_getElem h, getElem!_pos l k h]
/-! ### bytes -/
theorem idxStr_in (t : ByteArray) (k : IntKind) (z : Int) (h0 : 0 ≤ z) (h1 : z < t.size) : idxStrA (.string t) (.int k z) = some (.int .u8 ((t.data.toList[z.toNat]!).toNat : Nat)) := by
  have hz : z.toNat < t.data.toList.length := by simp; omega
  simp only [idxStrA, idxNat_in k z t.size h0 h1, Option.bind_some, lget_eq, List.getElem?_eq_getElem hz, Option.map_some, getElem!_pos t.data.toList z.toNat hz]
theorem len_string (t : ByteArray) : lenX true (.string t) = some (.int .i64 t.size) := rfl
def vB (b : UInt8) : Value := .int .u8 b.toNat
theorem cellsOfBytes_map (l : List UInt8) : cellsOfBytes l = l.map vB := rfl
def s2bA (nx : Nat) (t : TypeId) : Value → Option (Value × List Blk)
  | .string b => if Nat.ble b.size room then some (.slice (some ⟨nx, 0, some 0⟩) b.size (big + b.size), [⟨cellsOfBytes b.data.toList, 1, true, t⟩]) else none
  | _ => none
theorem q_s2b (E : Env) (fr : Fr) (s : St) (t : TypeId) (x : Operand) : pstep E fr s (.s2b t x) = op1 (s2bA s.next t) (ev fr x) := by
  simp only [pstep, op1]
  cases ev fr x with
  | none => rfl
  | some v => cases v <;> rfl
theorem s_s2b (E : Env) (fr : Fr) (s : St) (t : TypeId) (x : Operand) : step E fr s (.s2b t x) = retB s (op1 (s2bA s.next t) (ev fr x)) := step_eqB E fr s _ _ (q_s2b ..) rfl
theorem s2b_string (nx : Nat) (t : TypeId) (b : ByteArray) (h : b.size ≤ 1099511627776) : s2bA nx t (.string b) = some (.slice (some ⟨nx, 0, some 0⟩) b.size (big + b.size), [⟨b.data.toList.map vB, 1, true, t⟩]) := by
  simp only [s2bA, cellsOfBytes_map]
  rw [if_pos (by rw [Nat.ble_eq]; exact h)]
theorem size_toList (b : ByteArray) : b.data.toList.length = b.size := by simp
/-! ### structures -/
theorem box_agg (nx : Nat) (t : TypeId) (l : List Value) : boxA nx t (.agg l.toArray) = some (.pointer (some ⟨nx, 0, some 0⟩), [⟨l, 1, false, t⟩]) := by
  simp [boxA, Value.cells]
theorem fldA_new (i o p n : Nat) : fldAA n (.pointer (some ⟨i, o, some p⟩)) = some (.pointer (some ⟨i, o + n, some p⟩)) := rfl
def loadN' (o : Option Blk) (k n : Nat) : Option Value := match o with | some b => (ltake (b.cells.drop k) n).map fun l => .agg l.toArray | none => none
theorem loadAgg_new (E : Env) (h : Heap) (n i o p : Nat) : loadA E h (some n) (.pointer (some ⟨i, o, some p⟩)) = loadN' (hget h i) o n := by
  simp only [loadA, loadG, aloadN, loadN']
  cases hget h i <;> rfl
theorem loadN_some (b : Blk) (k n : Nat) : loadN' (some b) k n = (ltake (b.cells.drop k) n).map fun l => .agg l.toArray := rfl
theorem ltake_zero {α : Type} (l : List α) : ltake l 0 = some [] := by cases l <;> rfl
theorem ltake_succ {α : Type} (x : α) (l : List α) (n : Nat) : ltake (x :: l) (n + 1) = (ltake l n).map (x :: ·) := rfl
end Go.Itp
/-
  Structures that are built and stored whole; calls that write.
-/
namespace Go.Itp
theorem fillA_nil (cs : List Value) : fillA cs [] = some cs := by cases cs <;> rfl
theorem fillA_one (cs : List Value) (o : Nat) (v : Value) (r : List (Nat × Nat × Value)) (hv : oneCell v = true) (ho : Nat.blt o cs.length = true) : fillA cs ((o, 1, v) :: r) = fillA (cs.set o v) r := by
  have ho : o < cs.length := by rwa [Nat.blt_eq] at ho
  have e1 : Nat.beq 1 1 = true := rfl
  have e2 : Nat.ble (o + 1) cs.length = true := by rw [Nat.ble_eq]; exact ho
  simp [fillA, cells_one hv, e2, lput_one v cs o ho]
theorem buildA_eq (z : List Value) (ps : List (Nat × Nat × Value)) : buildA z ps = (fillA z ps).map fun cs => .agg cs.toArray := rfl
theorem lput_all : ∀ (l cs : List Value), l.length = cs.length → lput cs 0 l = some l
  | [], [], _ => rfl
  | [], _ :: _, h => by simp at h
  | _ :: _, [], h => by simp at h
  | x :: l, c :: cs, h => by simp [lput, lput_all l cs (by simpa using h)]
def storeN (o : Option Blk) (h : Heap) (nx p : Nat) (i n : Nat) (l : List Value) : Option (Value × St) :=
  match o with
  | some b => if Nat.ble p i && Nat.beq l.length n && l.all oneCell then (lput b.cells 0 l).map fun cs => (.tuple #[], ⟨hset h i { b with cells := cs }, nx, p⟩) else none
  | none => none
theorem storeA_agg (s : St) (n i p : Nat) (l : List Value) : storeA s n (.pointer (some ⟨i, 0, some p⟩)) (.agg l.toArray) = storeN (hget s.heap i) s.heap s.next s.prot i n l := by
  have e1 : (Value.agg l.toArray).cells.toList = l := rfl
  simp only [storeA, e1, astore, storeN]
  cases hget s.heap i with
  | none => by_cases h1 : Nat.beq l.length n = true <;> by_cases h2 : Nat.ble s.prot i = true <;> simp_all
  | some b =>
    by_cases h1 : l.length = n
    · by_cases h2 : s.prot ≤ i
      · by_cases h3 : l.all oneCell = true
        · have e2 : Nat.ble s.prot i = true := by rw [Nat.ble_eq]; exact h2
          have e3 : Nat.beq n n = true := nbeq.2 rfl
          rw [h1, e2, e3, h3]
          simp only [Option.bind_some, Bool.and_self, if_true]
          cases lput b.cells 0 l <;> rfl
        · simp [h1, h2, h3]
      · simp [h1, h2]
    · have : Nat.beq l.length n = false := by rw [Bool.eq_false_iff]; exact fun h => h1 (nbeq.1 h)
      simp [this]
theorem storeN_some (cs : List Value) (e g t) (h : Heap) (nx p i n : Nat) (l : List Value) (h0 : p ≤ i) (hn : l.length = n) (hl : l.length = cs.length) (hv : l.all oneCell = true) :
    storeN (some ⟨cs, e, g, t⟩) h nx p i n l = some (.tuple #[], ⟨hset h i ⟨l, e, g, t⟩, nx, p⟩) := by
  simp [storeN, h0, hn, hv, lput_all l cs hl]
theorem set_zero {α : Type} (x y : α) (l : List α) : (x :: l).set 0 y = y :: l := rfl
theorem set_succ {α : Type} (x y : α) (l : List α) (n : Nat) : (x :: l).set (n + 1) y = x :: l.set n y := rfl
theorem set_one {α : Type} (x z y : α) (l : List α) : (x :: z :: l).set 1 y = x :: y :: l := rfl
theorem set_two {α : Type} (x z u y : α) (l : List α) : (x :: z :: u :: l).set 2 y = x :: z :: y :: l := rfl
theorem all_cons (x : Value) (l : List Value) (hx : oneCell x = true) (hl : l.all oneCell = true) : (x :: l).all oneCell = true := by simp [hx, hl]
/-! ### parts of slices -/
theorem aadd_zero (a : Addr) : aadd a 0 = a := rfl
def slcR (e : Nat) (a : Option Addr) (c h l : Nat) : Option Value :=
  if Nat.blt c big then some (.slice (if c = l then a else a.map (aadd · (l * e))) (h - l) (c - l))
  else if Nat.blt l (c - big) then some (.slice (a.map (aadd · (l * e))) (h - l) (c - l))
  else if l = 0 then some (.slice a h c) else none
theorem slcA_nomax (e : Nat) (a : Option Addr) (n c : Nat) (lo hi : Option Value) : slcA e a n c lo hi none = (bndNat hi n (knownCap c)).bind fun h => (bndNat lo 0 h).bind fun l => slcR e a c h l := rfl
theorem slcR_zero (e : Nat) (a : Option Addr) (c h : Nat) : slcR e a c h 0 = some (.slice a h c) := by
  have e3 : a.map (aadd · (0 * e)) = a := by rw [Nat.zero_mul]; cases a <;> rfl
  unfold slcR
  rw [e3, Nat.sub_zero, Nat.sub_zero, ite_self, if_pos rfl, ite_self, ite_self]
theorem slcHi_eq (a : Option Addr) (n c : Nat) (k : IntKind) (z : Int) (hz0 : 0 ≤ z) (hkc : z ≤ knownCap c) : slcA' 1 none (some (.int k z)) none (.slice a n c) = some (.slice a z.toNat c) := by
  have e0 : slcA' 1 none (some (.int k z)) none (.slice a n c) = slcA 1 a n c none (some (.int k z)) none := rfl
  rw [e0, slcA_nomax]
  generalize knownCap c = K at hkc
  have e1 : bndNat (some (.int k z)) n K = some z.toNat := by simp [bndNat, hz0, hkc]
  have e2 : bndNat none 0 z.toNat = some 0 := rfl
  rw [e1, Option.bind_some, e2, Option.bind_some, slcR_zero]
theorem Rd.slcHi {α : Type} {old : Nat → Nat → Option Value} {h : Heap} {f : α → Value} {v : Value} {l : List α} (r : Rd old h f v l) (k : IntKind) (z : Int) (h0 : 0 < l.length) (hz0 : 0 ≤ z) (hz : z ≤ l.length) :
    ∃ v', slcA' 1 none (some (.int k z)) none v = some v' ∧ Rd old h f v' (l.take z.toNat) ∧ bidN v' = bidN v := by
  rcases r.is with ⟨a, c, rfl, h1, h2⟩ | ⟨rfl, _⟩
  case inr => simp at h0
  have hzl : z.toNat ≤ l.length := by omega
  have hlen : (l.take z.toNat).length = z.toNat := by rw [List.length_take]; exact Nat.min_eq_left hzl
  refine ⟨.slice a z.toNat c, slcHi_eq a _ c k z hz0 (by generalize knownCap c = K at h1 ⊢; omega), ⟨Or.inl ⟨a, c, by rw [hlen], by rw [hlen]; exact Nat.le_trans hzl h1, ?_⟩⟩, rfl⟩
  rcases h2 with ⟨rfl, rfl⟩ | ⟨ad, rfl, hb, h2⟩
  · simp at h0
  · refine Or.inr ⟨ad, rfl, hb, fun j hj => ?_⟩
    rw [h2 j (by rw [hlen] at hj; omega)]
    simp
theorem Own.appRd {α : Type} {f : α → Value} {lo : Nat} {s : St} {t : TypeId} {v : Value} {n : Nat} {cs : List Value} {E : Env} (o : Own lo s t 1 v n cs) {y : Value} {l : List α} (hy : Rd E.old s.heap f y l) {b : Nat} (hm : 1 ≤ l.length) (h1 : ∀ x, oneCell (f x) = true)
    (hr : n + l.length ≤ 1099511627776) (hrb : (n + l.length) * b ≤ 1099511627776) :
    appX E s t 1 b v y = some (.slice (some ⟨s.next, 0, some 0⟩) (n + l.length) (big + (n + l.length)), ⟨hpush (delO s.heap v) s.next [⟨cs ++ l.map f, 1, true, t⟩], s.next + 1, s.prot⟩) :=
  o.app hy.lenA hm (by
    have := hy.src l.length (Nat.le_refl _)
    rw [List.take_length] at this
    rw [← this]
    exact srcCells_old E ⟨fun _ _ _ => none, fun _ _ _ => none, E.old, 0⟩ rfl _ _ _ _) (by simp [h1]) hr hrb
/-! ### copies among operations that draw their order -/
theorem q_app (E : Env) (fr : Fr) (s : St) (t : TypeId) (e b : Nat) (x y : Operand) : pstep E fr s (.app t e b x y) = op2 (appP E s t e b) (ev fr x) (ev fr y) := by
  simp only [pstep, op2]
theorem one_catV (nx n : Nat) : oneCell (catV nx n) = true := by unfold catV; split <;> rfl
theorem app_catP {α : Type} {old : Nat → Nat → Option Value} {h : Heap} {f : α → Value} {v : Value} {l : List α} {nx q : Nat} {bl : Blk} (hv : Rd old h f v l) (hb : hget h nx = some bl) {E : Env} {t : TypeId} {b : Nat} (hE : E.old = old) (hr : l.length ≤ 1099511627776) (hrb : l.length * b ≤ 1099511627776) :
    appP E ⟨h, nx + 1, q⟩ t 1 b (.slice (some ⟨nx, 0, some 0⟩) 0 0) v = some (catV nx l.length, newB t 1 l.length (l.map f)) := by
  subst hE
  by_cases h0 : l.length = 0
  · have e0 : Nat.beq 0 0 = true := rfl
    have e1 : Nat.ble 0 (knownCap 0) = true := rfl
    simp only [appP, hv.lenA, h0, Option.bind_some, e0, e1, if_true, catV, newB]
  · have e0 : Nat.beq l.length 0 = false := by rw [Bool.eq_false_iff]; exact fun h => h0 (nbeq.1 h)
    have e1 : (Nat.ble (0 + l.length) room && Nat.ble ((0 + l.length) * b) room && Nat.blt 0 big && Nat.blt 0 (0 + l.length)) = true := by
      have : Nat.blt 0 big = true := rfl
      simp only [this, Bool.and_eq_true, Nat.ble_eq, Nat.blt_eq, Nat.zero_add]
      unfold room
      exact ⟨⟨⟨hr, hrb⟩, trivial⟩, by omega⟩
    rw [Nat.zero_add] at e1
    have e2 : srcCells E h 1 l.length v = some (l.map f) := by
      have := hv.src l.length (Nat.le_refl _)
      rw [List.take_length] at this
      rw [← this]
      exact srcCells_old E ⟨fun _ _ _ => none, fun _ _ _ => none, E.old, 0⟩ rfl _ _ _ _
    have e3 : srcCells E h 1 0 (.slice (some ⟨nx, 0, some 0⟩) 0 0) = some [] := by simp [srcCells, aloadN, hb, ltake]
    simp only [appP, hv.lenA, Option.bind_some, e0, e1, e2, e3, Bool.false_eq_true, if_false, if_true, Option.map_some, catV, newB, h0, List.nil_append, Nat.zero_add]
theorem cat_row {α : Type} (f : α → Value) (h : Heap) (n1 : Nat) (t : TypeId) (l : List α) : ∃ (i c : Nat) (g : Bool), catV n1 l.length = .slice (some ⟨i, 0, some 0⟩) l.length c ∧ n1 ≤ i ∧ i < n1 + 1 + (newB t 1 l.length (l.map f)).length ∧ l.length ≤ knownCap c ∧
    hget (hpush (hpush h n1 [⟨[], 1, false, t⟩]) (n1 + 1) (newB t 1 l.length (l.map f))) i = some ⟨l.map f, 1, g, t⟩ := by
  by_cases h0 : l.length = 0
  · have hl : l = [] := List.length_eq_zero_iff.1 h0
    subst hl
    exact ⟨n1, 0, false, rfl, Nat.le_refl _, by simp [newB], Nat.zero_le _, by simp only [newB, List.length_nil, if_true, hpush_nil, List.map_nil]; exact hget_push_one _ _ _ _ rfl⟩
  · refine ⟨n1 + 1, big + l.length, true, by simp only [catV, h0, if_false], by omega, by simp only [newB, h0, if_false, List.length_singleton]; omega, ?_, ?_⟩
    · unfold knownCap; rw [if_neg (by rw [Nat.blt_eq]; omega)]; omega
    · simp only [newB, h0, if_false]; exact hget_push_one _ _ _ _ rfl
theorem Own.one {lo : Nat} {s : St} {t : TypeId} {e : Nat} {v : Value} {n : Nat} {cs : List Value} (o : Own lo s t e v n cs) : oneCell v = true := by
  rcases o.is with ⟨rfl, _⟩ | ⟨i, _, _, _, ⟨rfl, _⟩ | ⟨rfl, _⟩⟩ <;> rfl
theorem Own.rdV {lo : Nat} {s : St} {t : TypeId} {v : Value} {n : Nat} {cs : List Value} {old : Nat → Nat → Option Value} (o : Own lo s t 1 v n cs) (hn : n = cs.length) : Rd old s.heap (fun x : Value => x) v cs := by
  subst hn
  exact Own.rd (l := cs) (f := fun x => x) (by rw [List.map_id']; exact o)
end Go.Itp
/-
  Walking regions that draw their order and write in it: their machine, and its equations.
-/
namespace Go.Itp
def goW (E : Env) (fr0 : Fr) (p : Nat) (l : List WOp) (rs : List WRec) (fr : Fr) (h : Heap) (n : Nat) (tail : List AOper) (ks : List Nat) (K : List KF) : Res3 :=
  (runW E fr0 p l rs fr h n).bind fun r => goO E tail ks K r.1 ⟨r.2.1, r.2.2, p⟩
/-- on, if what came out agrees with what else may be under way -/
def goWC (c : Bool) (r : Res3) : Res3 := if c then r else none
def goWF (E : Env) (f : Fr) (fr0 : Fr) (p : Nat) (o : AOp) (conc : List Nat) (hint : Option (List Nat)) (d : Option Nat) (l : List WOp) (rs : List WRec) (fr : Fr) (h : Heap) (n : Nat) (tail : List AOper) (ks : List Nat) (K : List KF) : Res3 :=
  (stepW E fr0 p ⟨⟨none, none, o⟩, conc, hint⟩ rs f h n).bind fun r => goWC (okAll rs r.2.2.2 conc) (goW E fr0 p l (rs ++ [r.2.2.2]) (fputO fr d r.1) r.2.1 r.2.2.1 tail ks K)
def goWG (E : Env) (v : Option Value) (want : Bool) (f : Fr) (fr0 : Fr) (p : Nat) (o : AOp) (conc : List Nat) (hint : Option (List Nat)) (d : Option Nat) (l : List WOp) (rs : List WRec) (fr : Fr) (h : Heap) (n : Nat) (tail : List AOper) (ks : List Nat) (K : List KF) : Res3 :=
  match v with
  | some (.bool b) => if b == want then goWF E f fr0 p o conc hint d l rs fr h n tail ks K else goW E fr0 p l (rs ++ [noRec]) (fputO fr d (.tuple #[])) h n tail ks K
  | some _ => goW E fr0 p l (rs ++ [noRec]) (fputO fr d (.tuple #[])) h n tail ks K
  | none => none
/-- an operation that writes nothing that was there -/
def goWB (r : Option (Value × List Blk)) (V : VS) (E : Env) (fr0 : Fr) (p : Nat) (conc : List Nat) (d : Option Nat) (l : List WOp) (rs : List WRec) (fr : Fr) (h : Heap) (n : Nat) (tail : List AOper) (ks : List Nat) (K : List KF) : Res3 :=
  r.bind fun r => goWC (okAll rs ⟨V, .only [], .fix (numb n r.2)⟩ conc) (goW E fr0 p l (rs ++ [⟨V, .only [], .fix (numb n r.2)⟩]) (fputO fr d r.1) (hpush h n r.2) (n + r.2.length) tail ks K)
def goWL (u : Option Value) (E : Env) (k : Option Nat) (fr0 : Fr) (p : Nat) (conc : List Nat) (d : Option Nat) (l : List WOp) (rs : List WRec) (fr : Fr) (h : Heap) (n : Nat) (tail : List AOper) (ks : List Nat) (K : List KF) : Res3 :=
  u.bind fun u => goWB (retP (loadA E (keepL (ownBlk u) h) k u)) (.only (ownBlk u)) E fr0 p conc d l rs fr h n tail ks K
/-- a store -/
def goWQ (r : Option (Value × St)) (i : Nat) (E : Env) (fr0 : Fr) (p : Nat) (conc : List Nat) (d : Option Nat) (l : List WOp) (rs : List WRec) (fr : Fr) (n : Nat) (tail : List AOper) (ks : List Nat) (K : List KF) : Res3 :=
  r.bind fun r => goWC (okAll rs ⟨.only [i], .only [i], .fix []⟩ conc) (goW E fr0 p l (rs ++ [⟨.only [i], .only [i], .fix []⟩]) (fputO fr d r.1) r.2.heap n tail ks K)
def goWS (u v : Option Value) (E : Env) (k : Nat) (fr0 : Fr) (p : Nat) (conc : List Nat) (d : Option Nat) (l : List WOp) (rs : List WRec) (fr : Fr) (h : Heap) (n : Nat) (tail : List AOper) (ks : List Nat) (K : List KF) : Res3 :=
  match u, v with
  | some (.pointer (some ⟨i, o, some q⟩)), some v => goWQ (storeA ⟨h, n, p⟩ k (.pointer (some ⟨i, o, some q⟩)) v) i E fr0 p conc d l rs fr n tail ks K
  | _, _ => none
/-- a call, an append, or whatever else -/
def goWO (r : Option (Value × List Blk)) (w : Option (Value × St)) (V : VS) (E : Env) (fr0 : Fr) (p : Nat) (conc : List Nat) (d : Option Nat) (l : List WOp) (rs : List WRec) (fr : Fr) (h : Heap) (n : Nat) (tail : List AOper) (ks : List Nat) (K : List KF) : Res3 :=
  match r with
  | some r => goWB (some r) V E fr0 p conc d l rs fr h n tail ks K
  | none => if Nat.ble p n then w.bind fun (v, s1) => if Nat.ble n s1.next then goWC (okAll rs ⟨V, V, .rng n s1.next⟩ conc) (goW E fr0 p l (rs ++ [⟨V, V, .rng n s1.next⟩]) (fputO fr d v) (filt n s1.next (vheap V h) s1.heap ++ vrest V h) s1.next tail ks K) else none else none
def goWA (u y : Option Value) (E : Env) (f : Fr) (o : AOp) (fr0 : Fr) (p : Nat) (conc : List Nat) (d : Option Nat) (l : List WOp) (rs : List WRec) (fr : Fr) (h : Heap) (n : Nat) (tail : List AOper) (ks : List Nat) (K : List KF) : Res3 :=
  u.bind fun u => y.bind fun y => goWO (pstep E f ⟨keepL (ids 0 u ++ ids 0 y) h, n, n⟩ o) (wstep E f ⟨keepL (ids 0 u ++ ids 0 y) h, n, p⟩ o) (.only (ids 0 u ++ ids 0 y)) E fr0 p conc d l rs fr h n tail ks K
def isLS : AOp → Bool
  | .load _ _ => true
  | .store _ _ _ => true
  | .app _ _ _ _ _ => true
  | .copy _ _ _ => true
  | _ => false
section
variable {E : Env} {K : List KF} {fr f fr0 : Fr} {s : St} {p n : Nat} {conc : List Nat} {hint : Option (List Nat)} {d : Option Nat} {l : List WOp} {rs : List WRec} {h : Heap} {tail : List AOper} {ks : List Nat} {V : VS}
theorem go_drawW (pre : List WOp) (tail : List AOper) (ks : List Nat) : go E (.drawW pre tail ks) K fr s = goW E fr s.prot pre [] fr s.heap s.next tail ks K := by
  unfold go goW goO
  simp only [exec]
  cases runW E fr s.prot pre [] fr s.heap s.next with
  | none => rfl
  | some r =>
    simp only [Option.bind_some]
    cases runOps E tail r.1 _ <;> rfl
theorem goW_nil : goW E fr0 p [] rs fr h n tail ks K = goO E tail ks K fr ⟨h, n, p⟩ := rfl
theorem goWC_true (r : Res3) : goWC true r = r := rfl
theorem stepW_irr (d' : Option Nat) (g : Option (Nat × Bool)) (o : AOp) : stepW E fr0 p ⟨⟨d', g, o⟩, conc, hint⟩ rs f h n = stepW E fr0 p ⟨⟨none, none, o⟩, conc, hint⟩ rs f h n := by
  cases o <;> rfl
theorem goW_cons (o : AOp) : goW E fr0 p (⟨⟨d, none, o⟩, conc, hint⟩ :: l) rs fr h n tail ks K = goWF E (fkeep (slotsL (opdsA o)) fr) fr0 p o conc hint d l rs fr h n tail ks K := by
  have e : readsA (⟨d, none, o⟩ : AOper) = slotsL (opdsA o) := by simp [readsA]
  unfold goW goWF goWC
  simp only [runW, wanted, Option.bind_some, e]
  rw [stepW_irr]
  cases stepW E fr0 p ⟨⟨none, none, o⟩, conc, hint⟩ rs (fkeep (slotsL (opdsA o)) fr) h n with
  | none => rfl
  | some r =>
    obtain ⟨v, h', n', q⟩ := r
    simp only [Option.bind_some]
    cases okAll rs q conc <;> rfl
theorem goW_guard (t : Nat) (want : Bool) (o : AOp) : goW E fr0 p (⟨⟨d, some (t, want), o⟩, conc, hint⟩ :: l) rs fr h n tail ks K =
    goWG E (fget (fkeep (slotsL (opdsA o) ++ [t]) fr) t) want (fkeep (slotsL (opdsA o) ++ [t]) fr) fr0 p o conc hint d l rs fr h n tail ks K := by
  unfold goWG
  simp only [goW, runW, wanted, readsA]
  cases fget (fkeep (slotsL (opdsA o) ++ [t]) fr) t with
  | none => rfl
  | some v =>
    cases v with
    | bool b =>
      simp only [Option.map_some, Option.bind_some]
      cases hb : (b == want)
      · simp [noRec]
      · simp only [if_true]
        unfold goWF goWC
        rw [stepW_irr]
        cases stepW E fr0 p ⟨⟨none, none, o⟩, conc, hint⟩ rs (fkeep (slotsL (opdsA o) ++ [t]) fr) h n with
        | none => rfl
        | some r =>
          obtain ⟨v, h', n', q⟩ := r
          simp only [Option.bind_some]
          cases okAll rs q conc <;> rfl
    | _ => rfl
theorem goWG_yes (b : Bool) (o : AOp) : goWG E (some (.bool b)) b f fr0 p o conc hint d l rs fr h n tail ks K = goWF E f fr0 p o conc hint d l rs fr h n tail ks K := by simp [goWG]
theorem goWG_tf (o : AOp) : goWG E (some (.bool true)) false f fr0 p o conc hint d l rs fr h n tail ks K = goW E fr0 p l (rs ++ [noRec]) (fputO fr d (.tuple #[])) h n tail ks K := rfl
theorem goWG_ft (o : AOp) : goWG E (some (.bool false)) true f fr0 p o conc hint d l rs fr h n tail ks K = goW E fr0 p l (rs ++ [noRec]) (fputO fr d (.tuple #[])) h n tail ks K := rfl
theorem goWG_tuple (a : Array Value) (want : Bool) (o : AOp) : goWG E (some (.tuple a)) want f fr0 p o conc hint d l rs fr h n tail ks K = goW E fr0 p l (rs ++ [noRec]) (fputO fr d (.tuple #[])) h n tail ks K := rfl
theorem goWF_load (k : Option Nat) (a : Operand) : goWF E f fr0 p (.load k a) conc hint d l rs fr h n tail ks K = goWL (ev f a) E k fr0 p conc d l rs fr h n tail ks K := by
  unfold goWF goWL
  simp only [stepW]
  cases ha : ev f a with
  | none => rfl
  | some u =>
    simp only [Option.bind_some, q_load, ha, op1]
    unfold goWB pureW
    cases retP (loadA E (keepL (ownBlk u) h) k u) <;> rfl
theorem loadA_keep (k : Option Nat) (i o q : Nat) : loadA E (keepL [i] h) k (.pointer (some ⟨i, o, some q⟩)) = loadA E h k (.pointer (some ⟨i, o, some q⟩)) := by
  have e : hget (keepL [i] h) i = hget h i := by rw [hget_keepL]; simp [elemB]
  cases k <;> simp only [loadA, loadG, aload, aloadN, e]
theorem goWL_own (k : Option Nat) (i o q : Nat) : goWL (some (.pointer (some ⟨i, o, some q⟩))) E k fr0 p conc d l rs fr h n tail ks K = goWB (retP (loadA E h k (.pointer (some ⟨i, o, some q⟩)))) (.only [i]) E fr0 p conc d l rs fr h n tail ks K := by
  unfold goWL
  simp only [Option.bind_some, ownBlk, loadA_keep]
theorem goWL_old (k : Option Nat) (i o : Nat) : goWL (some (.pointer (some ⟨i, o, none⟩))) E k fr0 p conc d l rs fr h n tail ks K = goWB (retP (loadA E h k (.pointer (some ⟨i, o, none⟩)))) (.only []) E fr0 p conc d l rs fr h n tail ks K := by
  unfold goWL
  simp only [Option.bind_some, ownBlk]
  cases k <;> rfl
theorem goWB_some (v : Value) (bs : List Blk) : goWB (some (v, bs)) V E fr0 p conc d l rs fr h n tail ks K =
    goWC (okAll rs ⟨V, .only [], .fix (numb n bs)⟩ conc) (goW E fr0 p l (rs ++ [⟨V, .only [], .fix (numb n bs)⟩]) (fputO fr d v) (hpush h n bs) (n + bs.length) tail ks K) := rfl
theorem goWF_free (o : AOp) (ho : isLS o = false) : goWF E f fr0 p o conc none d l rs fr h n tail ks K = goWB (pstep E f ⟨[], n, n⟩ o) (.only []) E fr0 p conc d l rs fr h n tail ks K := by
  have e : stepW E fr0 p ⟨⟨none, none, o⟩, conc, none⟩ rs f h n = pureW (.only []) h n (pstep E f ⟨[], n, n⟩ o) := by
    cases o <;> first | rfl | cases ho
  unfold goWF goWB
  rw [e]
  unfold pureW
  cases pstep E f ⟨[], n, n⟩ o <;> rfl
theorem goWV_eq (o : AOp) (V : VS) : ((viewW E f p o V h n).bind fun r => goWC (okAll rs r.2.2.2 conc) (goW E fr0 p l (rs ++ [r.2.2.2]) (fputO fr d r.1) r.2.1 r.2.2.1 tail ks K)) =
    goWO (pstep E f ⟨vheap V h, n, n⟩ o) (wstep E f ⟨vheap V h, n, p⟩ o) V E fr0 p conc d l rs fr h n tail ks K := by
  unfold goWO viewW
  cases pstep E f ⟨vheap V h, n, n⟩ o with
  | some r => rfl
  | none =>
    simp only
    cases Nat.ble p n with
    | false => rfl
    | true =>
      simp only [if_true]
      cases wstep E f ⟨vheap V h, n, p⟩ o with
      | none => rfl
      | some r =>
        obtain ⟨v, s1⟩ := r
        simp only [Option.bind_some]
        cases Nat.ble n s1.next <;> rfl
theorem goWF_other (o : AOp) (sl : List Nat) (ho : isLS o = false) : goWF E f fr0 p o conc (some sl) d l rs fr h n tail ks K =
    goWO (pstep E f ⟨dropL (hintIds fr0 sl ++ newIds rs conc) h, n, n⟩ o) (wstep E f ⟨dropL (hintIds fr0 sl ++ newIds rs conc) h, n, p⟩ o) (.but (hintIds fr0 sl ++ newIds rs conc)) E fr0 p conc d l rs fr h n tail ks K := by
  have e : stepW E fr0 p ⟨⟨none, none, o⟩, conc, some sl⟩ rs f h n = viewW E f p o (.but (hintIds fr0 sl ++ newIds rs conc)) h n := by
    cases o <;> first | rfl | cases ho
  unfold goWF
  rw [e, goWV_eq]
  rfl
theorem goWF_app (t : TypeId) (e b : Nat) (x y : Operand) : goWF E f fr0 p (.app t e b x y) conc hint d l rs fr h n tail ks K = goWA (ev f x) (ev f y) E f (.app t e b x y) fr0 p conc d l rs fr h n tail ks K := by
  unfold goWF goWA
  simp only [stepW]
  cases hx : ev f x with
  | none => rfl
  | some u =>
    cases hy : ev f y with
    | none => rfl
    | some w =>
      simp only [Option.bind_some]
      rw [goWV_eq]
      rfl
theorem goWF_copy (e : Nat) (x y : Operand) : goWF E f fr0 p (.copy e x y) conc hint d l rs fr h n tail ks K = goWA (ev f x) (ev f y) E f (.copy e x y) fr0 p conc d l rs fr h n tail ks K := by
  unfold goWF goWA
  simp only [stepW]
  cases hx : ev f x with
  | none => rfl
  | some u =>
    cases hy : ev f y with
    | none => rfl
    | some w =>
      simp only [Option.bind_some]
      rw [goWV_eq]
      rfl
theorem goWA_some (u y : Value) (o : AOp) : goWA (some u) (some y) E f o fr0 p conc d l rs fr h n tail ks K =
    goWO (pstep E f ⟨keepL (ids 0 u ++ ids 0 y) h, n, n⟩ o) (wstep E f ⟨keepL (ids 0 u ++ ids 0 y) h, n, p⟩ o) (.only (ids 0 u ++ ids 0 y)) E fr0 p conc d l rs fr h n tail ks K := rfl
theorem goWO_some (v : Value) (bs : List Blk) (w : Option (Value × St)) : goWO (some (v, bs)) w V E fr0 p conc d l rs fr h n tail ks K = goWB (some (v, bs)) V E fr0 p conc d l rs fr h n tail ks K := rfl
theorem goWO_none (v : Value) (h1 : Heap) (n1 p1 : Nat) (hp : p ≤ n) (hn : n ≤ n1) : goWO none (some (v, ⟨h1, n1, p1⟩)) V E fr0 p conc d l rs fr h n tail ks K =
    goWC (okAll rs ⟨V, V, .rng n n1⟩ conc) (goW E fr0 p l (rs ++ [⟨V, V, .rng n n1⟩]) (fputO fr d v) (filt n n1 (vheap V h) h1 ++ vrest V h) n1 tail ks K) := by
  unfold goWO
  simp only [Option.bind_some]
  rw [if_pos (by rw [Nat.ble_eq]; exact hp), if_pos (by rw [Nat.ble_eq]; exact hn)]
theorem goWF_store (k : Nat) (a v : Operand) : goWF E f fr0 p (.store k a v) conc hint d l rs fr h n tail ks K = goWS (ev f a) (ev f v) E k fr0 p conc d l rs fr h n tail ks K := by
  unfold goWF goWS
  simp only [stepW, storeW]
  cases ha : ev f a with
  | none => rfl
  | some u =>
    simp only [Option.bind_some]
    cases hv : ev f v with
    | none =>
      simp only [wstep, ha, hv, Option.bind_some, Option.bind_none]
      cases ownBlk u <;> rfl
    | some x =>
      have hno : ownBlk u = [] → ((match ownBlk u with | d :: _ => (wstep E f ⟨keepL [d] h, n, p⟩ (.store k a v)).bind fun (v, s1) => if Nat.beq s1.next n then (hget s1.heap d).map fun b => (v, hset h d b, n, (⟨.only [d], .only [d], .fix []⟩ : WRec)) else none | [] => none) : Option (Value × Heap × Nat × WRec)) = none := by
        intro e; rw [e]
      cases u with
      | pointer a' =>
        cases a' with
        | none => simp only [ownBlk]; rfl
        | some a' =>
          obtain ⟨i, o, q⟩ := a'
          cases q with
          | none => simp only [ownBlk]; rfl
          | some q =>
            simp only [ownBlk, wstep, ha, hv, Option.bind_some]
            unfold goWQ storeA
            simp only []
            by_cases hb : Nat.beq x.cells.toList.length k = true
            · rw [if_pos hb, if_pos hb]
              simp only [astore]
              by_cases hp : Nat.ble p i = true
              · rw [if_pos hp, if_pos hp]
                have e : hget (keepL [i] h) i = hget h i := by rw [hget_keepL]; simp [elemB]
                rw [e]
                cases hg : hget h i with
                | none => rfl
                | some bl =>
                  simp only [Option.bind_some]
                  by_cases hall : x.cells.toList.all oneCell = true
                  · rw [if_pos hall, if_pos hall]
                    cases lput bl.cells o x.cells.toList with
                    | none => rfl
                    | some cs =>
                      simp only [Option.map_some, Option.bind_some]
                      rw [if_pos (nbeq.2 rfl), hget_set_self, e, hg]
                      rfl
                  · rw [if_neg hall, if_neg hall]; rfl
              · rw [if_neg hp, if_neg hp]; rfl
            · rw [if_neg hb, if_neg hb]; rfl
      | _ => simp only [ownBlk]; rfl
theorem goWS_own (i o q : Nat) (v : Value) (k : Nat) : goWS (some (.pointer (some ⟨i, o, some q⟩))) (some v) E k fr0 p conc d l rs fr h n tail ks K = goWQ (storeA ⟨h, n, p⟩ k (.pointer (some ⟨i, o, some q⟩)) v) i E fr0 p conc d l rs fr n tail ks K := rfl
theorem goWQ_some (v : Value) (s1 : St) (i : Nat) : goWQ (some (v, s1)) i E fr0 p conc d l rs fr n tail ks K =
    goWC (okAll rs ⟨.only [i], .only [i], .fix []⟩ conc) (goW E fr0 p l (rs ++ [⟨.only [i], .only [i], .fix []⟩]) (fputO fr d v) s1.heap n tail ks K) := rfl
end
/-! ### whether the operations agree -/
theorem okAll_nil (rs : List WRec) (q : WRec) : okAll rs q [] = true := rfl
def okAt (p : Option WRec) (q : WRec) : Bool := match p with | some p => p.ok q | none => false
theorem okAll_cons (rs : List WRec) (q : WRec) (k : Nat) (r : List Nat) : okAll rs q (k :: r) = (okAt (lget rs k) q && okAll rs q r) := by
  simp only [okAll, okAt]
  cases lget rs k <;> rfl
theorem okAt_some (p q : WRec) : okAt (some p) q = p.ok q := rfl
theorem ok_eq (v w v' w' : VS) (a b : NW) : WRec.ok ⟨v, w, a⟩ ⟨v', w', b⟩ = (w.dis v' && w'.dis v && a.out v') := rfl
theorem dis_oo (a b : List Nat) : (VS.only a).dis (.only b) = disL a b := rfl
theorem dis_ob (a b : List Nat) : (VS.only a).dis (.but b) = subL a b := rfl
theorem dis_bo (a b : List Nat) : (VS.but a).dis (.only b) = subL b a := rfl
theorem out_fo (a b : List Nat) : (NW.fix a).out (.only b) = disL a b := rfl
theorem out_fb (a b : List Nat) : (NW.fix a).out (.but b) = subL a b := rfl
theorem out_ro (a c : Nat) (b : List Nat) : (NW.rng a c).out (.only b) = outL a c b := rfl
theorem disL_nil (b : List Nat) : disL [] b = true := rfl
theorem disL_cons (x : Nat) (r b : List Nat) : disL (x :: r) b = (!elemB x b && disL r b) := rfl
theorem subL_nil (b : List Nat) : subL [] b = true := rfl
theorem subL_cons (x : Nat) (r b : List Nat) : subL (x :: r) b = (elemB x b && subL r b) := rfl
theorem outL_nil (a c : Nat) : outL a c [] = true := rfl
theorem outL_lo (a c x : Nat) (r : List Nat) (h : x < a) : outL a c (x :: r) = outL a c r := by
  simp only [outL]
  rw [show Nat.blt x a = true by rw [Nat.blt_eq]; exact h]; rfl
theorem numb_nil (n : Nat) : numb n [] = [] := rfl
theorem numb_cons (n : Nat) (b : Blk) (r : List Blk) : numb n (b :: r) = n :: numb (n + 1) r := rfl
theorem elemB_one_ne (x y : Nat) (h : ¬ x = y) : elemB x [y] = false := by rw [elemB_false]; simpa using h
theorem elemB_one_eq (x : Nat) : elemB x [x] = true := by rw [elemB_iff]; simp
theorem hget_drop_out (l : List Nat) (d : Nat) (h : Heap) (hd : d ∉ l) : hget (dropL l h) d = hget h d := by rw [hget_dropL, elemB_false.2 hd]; simp
end Go.Itp
/-
  Strings as lists of bytes; strings.Builder's last step.
-/
namespace Go.Itp
def bstr (l : List UInt8) : ByteArray := ⟨l.toArray⟩
theorem bstr_app (a b : List UInt8) : bstr a ++ bstr b = bstr (a ++ b) := by
  apply ByteArray.ext
  simp [bstr]
theorem bstr_of (b : ByteArray) : bstr b.data.toList = b := by
  apply ByteArray.ext
  simp [bstr]
theorem bstr_size (l : List UInt8) : (bstr l).size = l.length := by simp [bstr, ByteArray.size]
theorem bstr_list (l : List UInt8) : (bstr l).data.toList = l := by simp [bstr]
theorem bstr_toList (l : List UInt8) : (bstr l).toList = l := by
  rw [ByteArray.toList_eq]; simp [bstr]
theorem bstr_inj {a b : List UInt8} (h : bstr a = bstr b) : a = b := by
  have := congrArg (fun x : ByteArray => x.data.toList) h
  simpa [bstr] using this
theorem bstr_lit1 (l : List UInt8) (c : UInt8) : bstr l ++ ⟨#[c]⟩ = bstr (l ++ [c]) := bstr_app l [c]
theorem empty_bstr : ByteArray.empty = bstr [] := rfl
theorem bytesOf_vB : ∀ (l : List UInt8), bytesOf (l.map vB) = some l
  | [] => rfl
  | b :: r => by
    simp only [List.map_cons, vB, bytesOf, bytesOf_vB r, Option.map_some, Option.some.injEq, List.cons.injEq, and_true]
    simp
theorem ltake_all {α : Type} (l : List α) : ltake l l.length = some l := by
  induction l with
  | nil => rfl
  | cons x l ih => simp [ltake, ih]
end Go.Itp
/-! The equations of the walk, in groups. -/
namespace Go.Itp
universe u
theorem WW0 : type_of% (And.intro @runK_nil (And.intro @runK_seq (And.intro @runK_seq_exit (And.intro @runK_seq_ret (And.intro @runK_block_normal (And.intro @runK_block_exit (And.intro @runK_block_ret (And.intro @go_skip (And.intro @go_ret (And.intro @go_exit (And.intro @go_seq (And.intro @go_block (And.intro @go_ops (And.intro @goO_nil (And.intro @goO_cons (And.intro @goV_some (And.intro @goO_guard (And.intro @goG_yes (And.intro @goG_tf (And.intro @goG_ft (And.intro @goG_tuple (And.intro @goPG_tuple (And.intro @go_cond (And.intro @goI_true (And.intro @goI_false (And.intro @go_draw (And.intro @goP_nil (And.intro @goP_cons (And.intro @goPV_some (And.intro @goP_guard (And.intro @goPG_yes (And.intro @goPG_tf (And.intro @goPG_ft (And.intro @does_some (And.intro @loopP_normal (And.intro @loopP_exit (And.intro @loopP_ret (And.intro @contE_eq (And.intro @contR_eq (@row0)))))))))))))))))))))))))))))))))))))))) :=
  And.intro @runK_nil (And.intro @runK_seq (And.intro @runK_seq_exit (And.intro @runK_seq_ret (And.intro @runK_block_normal (And.intro @runK_block_exit (And.intro @runK_block_ret (And.intro @go_skip (And.intro @go_ret (And.intro @go_exit (And.intro @go_seq (And.intro @go_block (And.intro @go_ops (And.intro @goO_nil (And.intro @goO_cons (And.intro @goV_some (And.intro @goO_guard (And.intro @goG_yes (And.intro @goG_tf (And.intro @goG_ft (And.intro @goG_tuple (And.intro @goPG_tuple (And.intro @go_cond (And.intro @goI_true (And.intro @goI_false (And.intro @go_draw (And.intro @goP_nil (And.intro @goP_cons (And.intro @goPV_some (And.intro @goP_guard (And.intro @goPG_yes (And.intro @goPG_tf (And.intro @goPG_ft (And.intro @does_some (And.intro @loopP_normal (And.intro @loopP_exit (And.intro @loopP_ret (And.intro @contE_eq (And.intro @contR_eq (@row0)))))))))))))))))))))))))))))))))))))))
theorem WW1 : type_of% (And.intro @row1 (And.intro @row2 (And.intro @row3 (And.intro @expand_one (And.intro @replicate_int (And.intro @replicate_bool (And.intro @mkSlice_one (And.intro @idxS_new (And.intro @idxA_new (And.intro @len_slice (And.intro @hget_set_self (And.intro @set_int (And.intro @set_bool (And.intro @get_set_eq (And.intro @get_set_ne (And.intro @op1_some (And.intro @op2_some (And.intro @ret1_some (And.intro @retP_some (And.intro @retB_some (And.intro @push_eq (And.intro @pickX_true (And.intro @pickX_false (And.intro @callR_some (And.intro @callR_none (And.intro @callX_some (And.intro @callY_some (And.intro @slcSX_some (And.intro @slcX_some (And.intro @slcAX_some (And.intro @s_mov (And.intro @s_pick (And.intro @s_alloc (And.intro @s_box (And.intro @s_build (And.intro @s_mkRow (And.intro @s_load (And.intro @s_nilChk (And.intro @s_bin (@s_eqB)))))))))))))))))))))))))))))))))))))))) :=
  And.intro @row1 (And.intro @row2 (And.intro @row3 (And.intro @expand_one (And.intro @replicate_int (And.intro @replicate_bool (And.intro @mkSlice_one (And.intro @idxS_new (And.intro @idxA_new (And.intro @len_slice (And.intro @hget_set_self (And.intro @set_int (And.intro @set_bool (And.intro @get_set_eq (And.intro @get_set_ne (And.intro @op1_some (And.intro @op2_some (And.intro @ret1_some (And.intro @retP_some (And.intro @retB_some (And.intro @push_eq (And.intro @pickX_true (And.intro @pickX_false (And.intro @callR_some (And.intro @callR_none (And.intro @callX_some (And.intro @callY_some (And.intro @slcSX_some (And.intro @slcX_some (And.intro @slcAX_some (And.intro @s_mov (And.intro @s_pick (And.intro @s_alloc (And.intro @s_box (And.intro @s_build (And.intro @s_mkRow (And.intro @s_load (And.intro @s_nilChk (And.intro @s_bin (@s_eqB)))))))))))))))))))))))))))))))))))))))
theorem WW2 : type_of% (And.intro @s_eqNil (And.intro @s_un (And.intro @s_convI (And.intro @s_convS (And.intro @s_b2s (And.intro @s_mkSlice (And.intro @s_slcS (And.intro @s_slc (And.intro @s_slcA (And.intro @s_fldA (And.intro @s_fldV (And.intro @s_idxS (And.intro @s_idxA (And.intro @s_idxStr (And.intro @s_idxV (And.intro @s_ext (And.intro @s_mkFn (And.intro @s_mkIf (And.intro @s_len (And.intro @s_mm (And.intro @s_cap (And.intro @s_eqIf (And.intro @s_eqAgg (And.intro @s_callF (And.intro @s_callV (And.intro @s_app (And.intro @s_store (And.intro @s_copy (And.intro @q_mov (And.intro @q_pick (And.intro @q_alloc (And.intro @q_box (And.intro @q_build (And.intro @q_mkRow (And.intro @q_load (And.intro @q_nilChk (And.intro @q_bin (And.intro @q_eqB (And.intro @q_eqNil (@q_un)))))))))))))))))))))))))))))))))))))))) :=
  And.intro @s_eqNil (And.intro @s_un (And.intro @s_convI (And.intro @s_convS (And.intro @s_b2s (And.intro @s_mkSlice (And.intro @s_slcS (And.intro @s_slc (And.intro @s_slcA (And.intro @s_fldA (And.intro @s_fldV (And.intro @s_idxS (And.intro @s_idxA (And.intro @s_idxStr (And.intro @s_idxV (And.intro @s_ext (And.intro @s_mkFn (And.intro @s_mkIf (And.intro @s_len (And.intro @s_mm (And.intro @s_cap (And.intro @s_eqIf (And.intro @s_eqAgg (And.intro @s_callF (And.intro @s_callV (And.intro @s_app (And.intro @s_store (And.intro @s_copy (And.intro @q_mov (And.intro @q_pick (And.intro @q_alloc (And.intro @q_box (And.intro @q_build (And.intro @q_mkRow (And.intro @q_load (And.intro @q_nilChk (And.intro @q_bin (And.intro @q_eqB (And.intro @q_eqNil (@q_un)))))))))))))))))))))))))))))))))))))))
theorem WW3 : type_of% (And.intro @q_convI (And.intro @q_convS (And.intro @q_b2s (And.intro @q_mkSlice (And.intro @q_slcS (And.intro @q_slc (And.intro @q_slcA (And.intro @q_fldA (And.intro @q_fldV (And.intro @q_idxS (And.intro @q_idxA (And.intro @q_idxStr (And.intro @q_idxV (And.intro @q_ext (And.intro @q_mkFn (And.intro @q_mkIf (And.intro @q_len (And.intro @q_mm (And.intro @q_callF (And.intro @q_cap (And.intro @q_eqIf (And.intro @q_eqAgg (And.intro @evs_nil (And.intro @consO_some (And.intro @evs_cons (And.intro @evO_none (And.intro @mapO_some (And.intro @evO_some (And.intro @evParts_nil (And.intro @consP_some (And.intro @evParts_cons (And.intro @hiddenHeap_nil (And.intro @hiddenHeap_true (And.intro @hiddenHeap_false (And.intro @hiddenHeap_all (And.intro @hpush_nil (And.intro @ev_tmp (And.intro @ev_const (And.intro @fget_cons' (@fput_nil)))))))))))))))))))))))))))))))))))))))) :=
  And.intro @q_convI (And.intro @q_convS (And.intro @q_b2s (And.intro @q_mkSlice (And.intro @q_slcS (And.intro @q_slc (And.intro @q_slcA (And.intro @q_fldA (And.intro @q_fldV (And.intro @q_idxS (And.intro @q_idxA (And.intro @q_idxStr (And.intro @q_idxV (And.intro @q_ext (And.intro @q_mkFn (And.intro @q_mkIf (And.intro @q_len (And.intro @q_mm (And.intro @q_callF (And.intro @q_cap (And.intro @q_eqIf (And.intro @q_eqAgg (And.intro @evs_nil (And.intro @consO_some (And.intro @evs_cons (And.intro @evO_none (And.intro @mapO_some (And.intro @evO_some (And.intro @evParts_nil (And.intro @consP_some (And.intro @evParts_cons (And.intro @hiddenHeap_nil (And.intro @hiddenHeap_true (And.intro @hiddenHeap_false (And.intro @hiddenHeap_all (And.intro @hpush_nil (And.intro @ev_tmp (And.intro @ev_const (And.intro @fget_cons' (@fput_nil)))))))))))))))))))))))))))))))))))))))
theorem WW4 : type_of% (And.intro @fput_cons' (And.intro @fputO_some (And.intro @fputO_none (And.intro @elemB_nil (And.intro @elemB_cons' (And.intro @fkeep_nil (And.intro @fkeep_cons' (And.intro @decide_yes (And.intro @decide_no (And.intro @b_lss (And.intro @b_leq (And.intro @b_gtr (And.intro @b_geq (And.intro @b_eql (And.intro @b_neq (And.intro @b_add (And.intro @b_sub (And.intro @b_mul (And.intro @b_quo_pos (And.intro @b_rem_pos (And.intro @b_seql (And.intro @b_sneq (And.intro @wrap64 (And.intro @u_not (And.intro @u_neg (And.intro @not_decide' (And.intro @eqB_f (And.intro @eqB_t (And.intro @idxNat_in (And.intro @mm_max (And.intro @mm_min (And.intro @convI_int (And.intro @ext_tuple (And.intro @lget_zero (And.intro @lget_succ (And.intro @loadA_old (And.intro @aload_old (And.intro @callP_old (And.intro @callP_rounds (@gcO_some)))))))))))))))))))))))))))))))))))))))) :=
  And.intro @fput_cons' (And.intro @fputO_some (And.intro @fputO_none (And.intro @elemB_nil (And.intro @elemB_cons' (And.intro @fkeep_nil (And.intro @fkeep_cons' (And.intro @decide_yes (And.intro @decide_no (And.intro @b_lss (And.intro @b_leq (And.intro @b_gtr (And.intro @b_geq (And.intro @b_eql (And.intro @b_neq (And.intro @b_add (And.intro @b_sub (And.intro @b_mul (And.intro @b_quo_pos (And.intro @b_rem_pos (And.intro @b_seql (And.intro @b_sneq (And.intro @wrap64 (And.intro @u_not (And.intro @u_neg (And.intro @not_decide' (And.intro @eqB_f (And.intro @eqB_t (And.intro @idxNat_in (And.intro @mm_max (And.intro @mm_min (And.intro @convI_int (And.intro @ext_tuple (And.intro @lget_zero (And.intro @lget_succ (And.intro @loadA_old (And.intro @aload_old (And.intro @callP_old (And.intro @callP_rounds (@gcO_some)))))))))))))))))))))))))))))))))))))))
theorem WW5 : type_of% (And.intro @retE_ret (And.intro @retE_normal (And.intro @Value.int.injEq (And.intro @Value.bool.injEq (And.intro @Value.string.injEq (And.intro @true_and (And.intro @and_true (And.intro @and_self (And.intro @retP_ret (And.intro @retP_normal (And.intro @retX_some (And.intro @retW_ret (And.intro @retW_normal (And.intro @retWX_some (And.intro @resOf_nil (And.intro @resOf_tmp (And.intro @resOf_cell (And.intro @tupleOf_one (And.intro @tupleOf_two (And.intro @loadO_new (And.intro @loadB_some (And.intro @decide_true (And.intro @decide_false (And.intro @not_true_eq_false (And.intro @not_false_eq_true (And.intro @hget_push_one (And.intro @hget_push_lt (And.intro @hget_push_gt (And.intro @hget_set_ne (And.intro @storeA_new (And.intro @storeB_some (And.intro @one_int (And.intro @one_bool (And.intro @one_string (And.intro @one_slice (And.intro @one_pointer (And.intro @lget_map (And.intro @gc_int (And.intro @gc_bool (@gc_string)))))))))))))))))))))))))))))))))))))))) :=
  And.intro @retE_ret (And.intro @retE_normal (And.intro @Value.int.injEq (And.intro @Value.bool.injEq (And.intro @Value.string.injEq (And.intro @true_and (And.intro @and_true (And.intro @and_self (And.intro @retP_ret (And.intro @retP_normal (And.intro @retX_some (And.intro @retW_ret (And.intro @retW_normal (And.intro @retWX_some (And.intro @resOf_nil (And.intro @resOf_tmp (And.intro @resOf_cell (And.intro @tupleOf_one (And.intro @tupleOf_two (And.intro @loadO_new (And.intro @loadB_some (And.intro @decide_true (And.intro @decide_false (And.intro @not_true_eq_false (And.intro @not_false_eq_true (And.intro @hget_push_one (And.intro @hget_push_lt (And.intro @hget_push_gt (And.intro @hget_set_ne (And.intro @storeA_new (And.intro @storeB_some (And.intro @one_int (And.intro @one_bool (And.intro @one_string (And.intro @one_slice (And.intro @one_pointer (And.intro @lget_map (And.intro @gc_int (And.intro @gc_bool (@gc_string)))))))))))))))))))))))))))))))))))))))
theorem WW6 : type_of% (And.intro @gc_nil_int (And.intro @gc_int_int (And.intro @gc_string_int (And.intro @idxStr_in (And.intro @len_string (And.intro @q_s2b (And.intro @s_s2b (And.intro @s2b_string (And.intro @box_agg (And.intro @fldA_new (And.intro @loadAgg_new (And.intro @loadN_some (And.intro @ltake_zero (And.intro @ltake_succ (And.intro @fillA_nil (And.intro @fillA_one (And.intro @buildA_eq (And.intro @storeA_agg (And.intro @storeN_some (And.intro @set_zero (And.intro @set_one (And.intro @set_two (And.intro @q_app (And.intro @go_drawW (And.intro @goW_nil (And.intro @goWC_true (And.intro @goW_cons (And.intro @goW_guard (And.intro @goWG_yes (And.intro @goWG_tf (And.intro @goWG_ft (And.intro @goWG_tuple (And.intro @goWF_load (And.intro @goWL_own (And.intro @goWL_old (And.intro @goWB_some (And.intro @goWF_free (And.intro @goWF_other (And.intro @goWF_app (@goWF_copy)))))))))))))))))))))))))))))))))))))))) :=
  And.intro @gc_nil_int (And.intro @gc_int_int (And.intro @gc_string_int (And.intro @idxStr_in (And.intro @len_string (And.intro @q_s2b (And.intro @s_s2b (And.intro @s2b_string (And.intro @box_agg (And.intro @fldA_new (And.intro @loadAgg_new (And.intro @loadN_some (And.intro @ltake_zero (And.intro @ltake_succ (And.intro @fillA_nil (And.intro @fillA_one (And.intro @buildA_eq (And.intro @storeA_agg (And.intro @storeN_some (And.intro @set_zero (And.intro @set_one (And.intro @set_two (And.intro @q_app (And.intro @go_drawW (And.intro @goW_nil (And.intro @goWC_true (And.intro @goW_cons (And.intro @goW_guard (And.intro @goWG_yes (And.intro @goWG_tf (And.intro @goWG_ft (And.intro @goWG_tuple (And.intro @goWF_load (And.intro @goWL_own (And.intro @goWL_old (And.intro @goWB_some (And.intro @goWF_free (And.intro @goWF_other (And.intro @goWF_app (@goWF_copy)))))))))))))))))))))))))))))))))))))))
theorem WW7 : type_of% (And.intro @goWA_some (And.intro @goWO_some (And.intro @goWO_none (And.intro @goWF_store (And.intro @goWS_own (And.intro @goWQ_some (And.intro @okAll_nil (And.intro @okAll_cons (And.intro @okAt_some (And.intro @ok_eq (And.intro @dis_oo (And.intro @dis_ob (And.intro @dis_bo (And.intro @out_fo (And.intro @out_fb (And.intro @out_ro (And.intro @disL_nil (And.intro @disL_cons (And.intro @subL_nil (And.intro @subL_cons (And.intro @outL_nil (And.intro @outL_lo (And.intro @numb_nil (@numb_cons)))))))))))))))))))))))) :=
  And.intro @goWA_some (And.intro @goWO_some (And.intro @goWO_none (And.intro @goWF_store (And.intro @goWS_own (And.intro @goWQ_some (And.intro @okAll_nil (And.intro @okAll_cons (And.intro @okAt_some (And.intro @ok_eq (And.intro @dis_oo (And.intro @dis_ob (And.intro @dis_bo (And.intro @out_fo (And.intro @out_fb (And.intro @out_ro (And.intro @disL_nil (And.intro @disL_cons (And.intro @subL_nil (And.intro @subL_cons (And.intro @outL_nil (And.intro @outL_lo (And.intro @numb_nil (@numb_cons)))))))))))))))))))))))
end Go.Itp
/-
  From the interpreter's answer to a given statement: what an argument reads as, and that it reads so behind the call too.
-/
namespace Go.Itp
open Go.RowKit (Below)
open Go.ChangeShapes Go.WideShapes

/-- types whose values hold no pointer, map, function or interface -/
def flatT (P : Program) : Nat → TypeId → Bool
  | 0, _ => false
  | k + 1, t => match P.underlying t with
    | some .bool => true
    | some (.int _) => true
    | some .string => true
    | some (.slice e) => !(P.cellsOf e == 0) && flatT P k e
    | some (.struct fs) => fs.toList.all fun f => flatT P k f.type
    | some (.array _ e) => flatT P k e
    | _ => false
section
variable {H : Type} {enc : TypeId × Value → H} {P : Program} {w : World} {base : Nat} {held : Bool} {sp : Nat → Bool}
theorem trod_sp : ∀ (k n : Nat) (t : TypeId) (cs : List Value) (x : DataW H × List MemPlace), flatT P k t = true → DataW.trod enc P w base (fun _ => true) held n t cs = some x → (∀ p ∈ x.2, sp p.block = true) →
    DataW.trod enc P w base sp held n t cs = some x
  | 0, _, _, _, _, h, _, _ => by simp [flatT] at h
  | k + 1, 0, _, _, _, _, h, _ => by simp [DataW.trod] at h
  | k + 1, n + 1, t, cs, x, hf, h, hs => by
    have ih := fun t cs x => trod_sp k n t cs x
    rw [DataW.trod_step] at h ⊢
    unfold DataW.trodStep at h ⊢
    unfold flatT at hf
    split at h
    case h_8 e a len cap hu =>
      rw [hu] at hf
      simp only [Bool.and_eq_true, Bool.not_eq_true', beq_eq_false_iff_ne] at hf
      simp only at h ⊢
      split at h
      · rename_i hc
        rw [if_pos hc]
        simp only [Option.map_eq_some_iff, Option.bind_eq_some_iff, if_true] at h ⊢
        obtain ⟨elems, he, rest, hrest, rfl⟩ := h
        have hl1 : elems.length = len := by simpa using mapM_some_length he
        have hl2 : rest.length = cap - len := by simpa using mapM_some_length hrest
        have one : ∀ (a : Addr) (y : DataW H × List MemPlace), y ∈ elems ++ rest → (w.cells? base a (P.cellsOf e)).bind (DataW.trod enc P w base (fun _ => true) held n e) = some y →
            (w.cells? base a (P.cellsOf e)).bind (DataW.trod enc P w base sp held n e) = some y := by
          intro a y hy hv
          simp only [Option.bind_eq_some_iff] at hv ⊢
          obtain ⟨c, hc1, hc2⟩ := hv
          exact ⟨c, hc1, ih _ _ _ hf.2 hc2 fun p hp => hs p (by simp only [List.mem_append, List.mem_flatMap]; exact Or.inr ⟨y, by simpa using hy, hp⟩)⟩
        refine ⟨elems, mapM_carry he fun i y _ hy hv => one _ y (by simp [hy]) hv, rest, ?_, rfl⟩
        by_cases hz : elems.length + rest.length = 0
        · have : rest = [] := List.length_eq_zero_iff.1 (by omega)
          subst this
          have : cap - len = 0 := by simpa using hl2.symm
          rw [this]
          split <;> simp
        · have hb : sp a.block = true := by
            have := hs (.cell a.block (a.off + 0)) (by
              simp only [List.mem_append]
              left
              refine MemPlace.mem_row.2 ⟨0, ?_, rfl⟩
              exact Nat.mul_pos (by omega) (Nat.pos_of_ne_zero hf.1))
            simpa [MemPlace.block] using this
          rw [if_pos hb]
          exact mapM_carry hrest fun j y _ hy hv => one _ y (by simp [hy]) hv
      · cases h
    case h_9 fs hu =>
      rw [hu] at hf
      simp only [List.all_eq_true] at hf
      split at h
      · rename_i hc
        rw [if_pos hc]
        simp only [Option.map_eq_some_iff] at h ⊢
        obtain ⟨xs, hx, rfl⟩ := h
        exact ⟨xs, mapM_carry hx (fun f y hfm hy hv => ih _ _ _ (hf f hfm) hv (fun p hp => hs p (List.mem_flatMap.2 ⟨y, hy, hp⟩))), rfl⟩
      · cases h
    case h_10 m e hu =>
      rw [hu] at hf
      split at h
      · rename_i hc
        rw [if_pos hc]
        simp only [Option.map_eq_some_iff] at h ⊢
        obtain ⟨xs, hx, rfl⟩ := h
        exact ⟨xs, mapM_carry hx (fun f y _ hy hv => ih _ _ _ hf hv (fun p hp => hs p (List.mem_flatMap.2 ⟨y, hy, hp⟩))), rfl⟩
      · cases h
    all_goals first | exact h | (exfalso; simp_all; done) | (simp_all; done)
theorem trodAll_sp (k : Nat) {W W' : World} (hb : Below W.heap.size W W') : ∀ (ts : List TypeId) (vs : List Value) (ds : List (DataW H)) (ps : List MemPlace), ts.all (flatT P k) = true →
    DataW.TrodAll enc P W base (fun _ => true) held ts vs ds ps → (∀ p ∈ ps, p.block < W.heap.size) → (∀ p ∈ ps, sp p.block = true) → DataW.TrodAll enc P W' base sp held ts vs ds ps
  | [], [], [], _, _, h, _, _ => h
  | t :: ts, v :: vs, d :: ds, ps, hf, ⟨p, q, ⟨n, h1⟩, h2, e⟩, hl, hs => by
    subst e
    simp only [List.all_cons, Bool.and_eq_true] at hf
    refine ⟨p, q, ⟨n, ?_⟩, trodAll_sp k hb ts vs ds q hf.2 h2 (fun x hx => hl x (by simp [hx])) (fun x hx => hs x (by simp [hx])), rfl⟩
    refine trod_sp k n _ _ _ hf.1 (DataW.trod_carry n _ _ _ h1 fun x hx => hb.same (hl x ?_)) fun x hx => hs x ?_
    · simp only at hx; simp [hx]
    · simp only at hx; simp [hx]
  | [], _ :: _, _, _, _, h, _, _ => by simp [DataW.TrodAll] at h
  | [], [], _ :: _, _, _, h, _, _ => by simp [DataW.TrodAll] at h
  | _ :: _, [], _, _, _, h, _, _ => by simp [DataW.TrodAll] at h
  | _ :: _, _ :: _, [], _, _, h, _, _ => by simp [DataW.TrodAll] at h
/-- the last step of a law without package variables: true is returned, and what was there reads as it did -/
theorem law_post {f : Func} {s : ChangeSpec} {apart fresh handsOn again : Bool} {W W' : World} {args : Array Value} {ds gs : List (DataW H)} {before : List MemPlace} {rt : TypeId}
    (hW : DataW.Whole enc P f.params.toList s.vars apart W args.toList ds gs before) (hv : s.vars = []) (hfn : s.fn H ds = { results := [.lit (.bool true)], args := ds })
    (hf : f.params.toList.all (flatT P 20) = true) (hr : f.resultTypes = #[rt]) (hrt : P.underlying rt = some .bool) (hb : Below W.heap.size W W') :
    s.post enc P f apart fresh handsOn again W args (.bool true) W' := by
  have hlt : ∀ p ∈ before, p.block < W.heap.size := fun p hp => hW.lt p hp
  have hW' := hW
  obtain ⟨pa, pv, hA, hV, hps, hz, hn⟩ := hW
  rw [hv] at hV
  obtain ⟨rfl, rfl⟩ := trodVars_none hV
  rw [List.append_nil] at hps
  subst hps
  have hd : s.fn H (ds ++ []) = { results := [.lit (.bool true)], args := ds } := by rw [List.append_nil]; exact hfn
  have hres : ∀ (b : Nat) (sp : Nat → Bool) (hd : Bool), DataW.TrodAll enc P W' b sp hd f.resultTypes.toList ((Value.bool true).resultList f.resultTypes.size) (s.fn H (ds ++ [])).results [] := by
    intro b sp hd'
    rw [hr, hd]
    exact ⟨[], [], ⟨1, by simp [DataW.trod, hrt, Value.cells]⟩, rfl, rfl⟩
  have hargs : ∀ sp : Nat → Bool, (∀ p ∈ before, sp p.block = true) → DataW.TrodAll enc P W' 0 sp true f.params.toList args.toList (s.fn H (ds ++ [])).args before := fun sp hsp => by rw [hd]; exact trodAll_sp 20 hb _ _ _ _ hf hA hlt hsp
  have hold : ∀ p ∈ before, (fun b => decide (b < W.heap.size)) p.block = true := fun p hp => by simpa using hlt p hp
  have hvars : ∀ sp, DataW.TrodVars enc P W' sp s.vars (s.fn H (ds ++ [])).vars [] := fun sp => by rw [hv, hd]; rfl
  refine ⟨ds, [], before, [], before, [], hW', hres _ _ _, hargs _ hold, hvars _, World.keptBut_mono (fun p hp => ⟨hp, ?_⟩) (hb.frame (· ∈ before)), fun _ => ?_⟩
  · exact Or.inr (Or.inl hp)
  · refine ⟨?_, _, _, ([] ++ before) ++ [], ⟨[] ++ before, [], trodAll_append (hargs _ (fun _ _ => rfl)) (hres _ _ _), hvars _, rfl, ?_, ?_⟩, ?_⟩
    · intro j t r h1 h2
      rw [hr] at h1 h2
      have hj : j = 0 := by
        rcases Nat.lt_or_ge j 1 with h | h
        · omega
        · rw [Array.getElem?_eq_none (by simpa using h)] at h1; cases h1
      subst hj
      simp at h1 h2
      subst h1
      have h2' : r = .bool true := by
        have : (Value.bool true).resultList 1 = [.bool true] := rfl
        rw [this] at h2; simpa using h2.symm
      subst h2'
      exact Go.RowKit.okWide_bool_mk hrt true
    · intro b off hp
      have hin : MemPlace.cell b off ∈ before := by simpa using hp
      rw [hb.frozen (hlt _ hin)]
      exact hz b off hin
    · intro ha; simpa using hn ha
    · intro p hp _; simpa using hp
end

/-- an argument that is a list of numbers -/
theorem rd_ints {H : Type} {enc : TypeId × Value → H} {P : Program} {W : World} {base b : Nat} {held : Bool} {t e : TypeId} {k : IntKind} {v : Value} {d : DataW H} {ps : List MemPlace} (ht : P.underlying t = some (.slice e)) (he : P.underlying e = some (.int k)) (hc : P.cellsOf e = 1) (hby : 0 < P.bytesOf e)
    (hv : Value.okWide P W .any b t v) (h : DataW.Trod enc P W base (fun _ => true) held t v d ps) (hsz : ∀ n ∈ d.weights P t, n ≤ reachBytes) :
    ∃ l : List Int, (∀ h, Rd (oldOf W) h (Value.int k) v l) ∧ bidN v = 0 ∧ ids 0 v = [] ∧ (∀ x ∈ l, (Lit.int k x).wf = true) ∧ l.length * P.bytesOf e ≤ reachBytes := by
  obtain ⟨n, hn⟩ := h
  have hone : v.cells.toList = [v] := cells_one (by
    unfold Value.okWide at hv
    rw [ht] at hv
    simp only [Cell.okWide, ht, Cell.ok] at hv
    cases v <;> first | rfl | (exfalso; simp at hv))
  rw [hone] at hn
  rcases open_ints ht he hc hn with ⟨h1, _⟩ | ⟨a, len, cap, zs, h1, _, hl, hm, hz, hx, hcell, hw⟩
  · simp only [List.cons.injEq, and_true] at h1
    subst h1
    exact ⟨[], fun h => Rd.nil, rfl, rfl, by simp, by simp⟩
  · simp only [List.cons.injEq, and_true] at h1
    subst h1
    have hsp : a.spot = none := by
      unfold Value.okWide at hv
      rw [ht] at hv
      simp only [Cell.okWide, ht, Cell.ok] at hv
      exact hv.2.2.2.1
    obtain ⟨b, o, s⟩ := a
    simp only at hsp
    subst hsp
    simp only [if_true] at hz
    have hlen : len ≤ zs.length := by omega
    simp only [Prod.mk.injEq] at hx
    have hmax : cap * P.bytesOf e ≤ reachBytes := by
      have := hsz ((lits (H := H) k (zs.take len)).length + (lits (H := H) k (zs.drop len)).length |> (· * P.bytesOf e)) (by rw [hx.1]; simp [DataW.weights, ht])
      simp only [lits, List.length_map, List.length_take, List.length_drop] at this
      rw [show min len zs.length + (zs.length - len) = cap by omega] at this
      exact this
    have hcap : cap ≤ cap * P.bytesOf e := Nat.le_mul_of_pos_right _ hby
    have hbig : reachBytes < big := by decide
    refine ⟨zs.take len, fun h => ⟨Or.inl ⟨_, cap, by rw [List.length_take, Nat.min_eq_left hlen], ?_, Or.inr ⟨_, rfl, fun i hi => by simp [bidA] at hi, fun j hj => ?_⟩⟩⟩, rfl, rfl, fun x hx => hw x (List.mem_of_mem_take hx), ?_⟩
    · rw [List.length_take, Nat.min_eq_left hlen]
      unfold knownCap
      rw [if_pos (by rw [Nat.blt_eq]; omega)]
      exact hl
    · have hj' : j < zs.length := by simp at hj; omega
      have := hcell j hj'
      rw [add_plain] at this
      simp only [aloadO, aadd]
      rw [oldOf_some this rfl]
      simp [List.getD_eq_getElem?_getD, hj']
    · rw [List.length_take, Nat.min_eq_left hlen]
      exact Nat.le_trans (Nat.mul_le_mul_right _ hl) hmax
end Go.Itp
/-
  Arguments of more kinds: lists of strings, of bools, of lists; structures of such.
-/
namespace Go.Itp
open Go.ChangeShapes Go.WideShapes

/-- what the interpreter holds in place of what a cell of old memory holds -/
def absV : Value → Value
  | .slice (some ⟨b, o, some k⟩) 0 0 => .complex .f32 b (enc2 o k)
  | v => v
theorem Rd.of_map {α : Type} {old : Nat → Nat → Option Value} {h : Heap} {f : α → Value} {v : Value} {l : List α} (r : Rd old h (fun x : Value => x) v (l.map f)) : Rd old h f v l := by
  rcases r.is with ⟨a, c, rfl, h1, h2⟩ | ⟨h1, h2⟩
  · refine ⟨Or.inl ⟨a, c, by simp, by simpa using h1, ?_⟩⟩
    rcases h2 with ⟨rfl, h2⟩ | ⟨ad, rfl, h2, h3⟩
    · exact Or.inl ⟨rfl, by simpa using h2⟩
    · exact Or.inr ⟨ad, rfl, h2, fun k hk => by have := h3 k (by simpa using hk); simpa using this⟩
  · exact ⟨Or.inr ⟨by simpa using h1, h2⟩⟩
section
variable {H : Type} {enc : TypeId × Value → H} {P : Program} {W : World} {base : Nat} {held : Bool}
/-- a slice whose elements lie in one cell each -/
theorem rd_raw {t e : TypeId} {fuel : Nat} {v : Value} {x : DataW H × List MemPlace} (ht : P.underlying t = some (.slice e)) (hc : P.cellsOf e = 1) (hby : 0 < P.bytesOf e)
    (h : DataW.trod enc P W base (fun _ => true) held fuel t [v] = some x) (hsz : ∀ n ∈ x.1.weights P t, n ≤ reachBytes)
    (habs : ∀ (c : Value) (n : Nat) (y : DataW H × List MemPlace), DataW.trod enc P W base (fun _ => true) held n e [c] = some y → ∀ b o, W.cell? ⟨b, o, none⟩ = some c → oldOf W b o = some (absV c)) :
    ∃ cs : List Value, (∀ h, Rd (oldOf W) h (fun x : Value => x) (absV v) (cs.map absV)) ∧ bidN (absV v) = 0 ∧ (∀ c ∈ cs, ∃ n y, DataW.trod enc P W base (fun _ => true) held n e [c] = some y ∧ ∀ m ∈ y.1.weights P e, m ≤ reachBytes) ∧ cs.length * P.bytesOf e ≤ reachBytes := by
  rcases DataW.trod_slice ht h with ⟨h1, _⟩ | ⟨a, len, cap, elems, rest, n, rfl, h1, rfl, hb, hl, hm, hlen, hel, hsp, _⟩
  · simp only [List.cons.injEq, and_true] at h1
    subst h1
    exact ⟨[], fun h => Rd.nil, rfl, by simp, by simp⟩
  · simp only [List.cons.injEq, and_true] at h1
    subst h1
    obtain ⟨hr1, hr2⟩ := hsp rfl
    have hmax : cap * P.bytesOf e ≤ reachBytes := by
      have := hsz ((elems.length + rest.length) * P.bytesOf e) (by simp [DataW.weights, ht])
      rwa [show elems.length + rest.length = cap by omega] at this
    have hcap : cap ≤ cap * P.bytesOf e := Nat.le_mul_of_pos_right _ hby
    have hbig : reachBytes < big := by decide
    have hone : ∀ i, i < len → ∃ c y, W.cell? (a.add i) = some c ∧ DataW.trod enc P W base (fun _ => true) held n e [c] = some y ∧ elems[i]? = some y := fun i hi => by
      have := hel i hi
      rw [hc, Nat.mul_one, List.getElem?_eq_getElem (by omega)] at this
      simp only [Option.bind_eq_some_iff] at this
      obtain ⟨cs, h2, h3⟩ := this
      unfold World.cells? at h2
      split at h2
      · simp only [List.range_one, List.mapM_cons, List.mapM_nil] at h2
        cases hq : W.cell? ((a.add i).add 0) with
        | none => rw [hq] at h2; cases h2
        | some c =>
          rw [hq] at h2
          have e0 : (a.add i).add 0 = a.add i := rfl
          rw [e0] at hq
          have : cs = [c] := by simpa using h2.symm
          subst this
          exact ⟨c, elems[i], hq, h3, List.getElem?_eq_getElem (by omega)⟩
      · cases h2
    by_cases hz : cap = 0
    · have hl0 : len = 0 := by omega
      subst hz hl0
      refine ⟨[], fun h => ?_, ?_, by simp, by simp⟩
      · obtain ⟨b, o, sp⟩ := a
        cases sp with
        | none => exact ⟨Or.inl ⟨some ⟨b, o, none⟩, 0, rfl, by simp, Or.inr ⟨⟨b, o, none⟩, rfl, fun i hi => by simp [bidA] at hi, fun k hk => by simp at hk⟩⟩⟩
        | some k => exact Rd.odd _ _ _
      · obtain ⟨b, o, sp⟩ := a
        cases sp <;> rfl
    · have habsv : absV (.slice (some a) len cap) = .slice (some a) len cap := by
        obtain ⟨b, o, sp⟩ := a
        cases sp with
        | none => rfl
        | some k =>
          unfold absV
          split
          · rename_i heq
            simp only [Value.slice.injEq] at heq
            exact (hz heq.2.2).elim
          · rfl
      have hspot : a.spot = none := by
        have hcell : ∃ c, W.cell? (a.add 0) = some c := by
          by_cases h0 : 0 < len
          · obtain ⟨c, _, h, _⟩ := hone 0 h0; exact ⟨c, h⟩
          · have := hr2 0 (by omega)
            rw [hc, Nat.mul_one, List.getElem?_eq_getElem (by omega)] at this
            simp only [Option.bind_eq_some_iff] at this
            obtain ⟨cs, h2, _⟩ := this
            unfold World.cells? at h2
            split at h2
            · simp only [List.range_one, List.mapM_cons, List.mapM_nil] at h2
              cases hq : W.cell? ((a.add (len + 0)).add 0) with
              | none => rw [hq] at h2; cases h2
              | some c => exact ⟨c, by rw [show len + 0 = 0 by omega] at hq; exact hq⟩
            · cases h2
        obtain ⟨c, hcell⟩ := hcell
        rw [show a.add 0 = a from rfl] at hcell
        cases hsp : a.spot with
        | none => rfl
        | some s =>
          simp only [World.cell?] at hcell
          split at hcell
          · simp [hsp] at hcell
          · cases hcell
      rw [habsv]
      obtain ⟨b, o, sp⟩ := a
      simp only at hspot
      subst hspot
      let cs := (List.range len).map fun i => (W.cell? ⟨b, o + i, none⟩).getD undef
      have hcs : ∀ i (hi : i < len), W.cell? ⟨b, o + i, none⟩ = some (cs[i]?.getD undef) ∧ ∃ y, DataW.trod enc P W base (fun _ => true) held n e [cs[i]?.getD undef] = some y ∧ elems[i]? = some y := fun i hi => by
        obtain ⟨c, y, h2, h3, h4⟩ := hone i hi
        rw [add_plain] at h2
        have : cs[i]?.getD undef = c := by simp [cs, hi, h2]
        rw [this]
        exact ⟨h2, y, h3, h4⟩
      have hlc : cs.length = len := by simp [cs]
      refine ⟨cs, fun h => ⟨Or.inl ⟨some ⟨b, o, none⟩, cap, by simp [hlc], ?_, Or.inr ⟨⟨b, o, none⟩, rfl, fun i hi => by simp [bidA] at hi, fun k hk => ?_⟩⟩⟩, rfl, fun c hc' => ?_, ?_⟩
      · unfold knownCap
        rw [if_pos (by rw [Nat.blt_eq]; omega)]
        simpa [hlc] using hl
      · have hk' : k < len := by simpa [hlc] using hk
        obtain ⟨h2, y, h3, _⟩ := hcs k hk'
        have := habs _ _ _ h3 _ _ h2
        simp only [aloadO, aadd]
        rw [this]
        have hkc : k < cs.length := by omega
        simp [hkc]
      · obtain ⟨i, hi, rfl⟩ := List.getElem_of_mem hc'
        obtain ⟨_, y, h3, h4⟩ := hcs i (by omega)
        refine ⟨n, y, by simpa [hi] using h3, fun m hm' => hsz m ?_⟩
        have hmem : y ∈ elems := List.mem_of_getElem? h4
        simp only [DataW.weights, ht, List.mem_cons, List.mem_append]
        right; left
        clear hsz
        have : ∀ l : List (DataW H × List MemPlace), y ∈ l → m ∈ DataW.weightsAll P e (l.map (·.1)) := by
          intro l
          induction l with
          | nil => intro h; cases h
          | cons z l ih =>
            intro hz'
            simp only [List.map_cons, DataW.weightsAll, List.mem_append]
            rcases List.mem_cons.1 hz' with rfl | hz'
            · exact Or.inl hm'
            · exact Or.inr (ih hz')
        exact this elems hmem
      · rw [hlc]
        exact Nat.le_trans (Nat.mul_le_mul_right _ hl) hmax
theorem abs_plain {b o : Nat} {c : Value} (h : W.cell? ⟨b, o, none⟩ = some c) (hid : ids 0 c = []) (ha : absV c = c) : oldOf W b o = some (absV c) := by
  rw [ha]; exact oldOf_some h hid
theorem map_of {α : Type} (f : α → Value) : ∀ (cs : List Value), (∀ c ∈ cs, ∃ a, c = f a ∧ absV (f a) = f a) → ∃ l : List α, cs.map absV = l.map f ∧ cs = l.map f
  | [], _ => ⟨[], rfl, rfl⟩
  | c :: cs, h => by
    obtain ⟨a, rfl, ha⟩ := h c (by simp)
    obtain ⟨l, h1, h2⟩ := map_of f cs fun c hc => h c (by simp [hc])
    exact ⟨a :: l, by simp [ha, h1], by simp [h2]⟩
/-- a list of strings -/
theorem rd_strings' {t e : TypeId} {fuel : Nat} {v : Value} {x : DataW H × List MemPlace} (ht : P.underlying t = some (.slice e)) (he : P.underlying e = some .string) (hc : P.cellsOf e = 1) (hby : 0 < P.bytesOf e)
    (h : DataW.trod enc P W base (fun _ => true) held fuel t [v] = some x) (hsz : ∀ n ∈ x.1.weights P t, n ≤ reachBytes) :
    ∃ l : List ByteArray, (∀ h, Rd (oldOf W) h Value.string (absV v) l) ∧ bidN (absV v) = 0 ∧ (∀ j, j < l.length → l[j]!.size ≤ reachBytes) ∧ l.length * P.bytesOf e ≤ reachBytes := by
  obtain ⟨cs, h1, h2, h3, h4⟩ := rd_raw ht hc hby h hsz fun c n y hy b o hcell => by
    obtain ⟨s, h5, _⟩ := DataW.trod_string he hy
    simp only [List.cons.injEq, and_true] at h5
    subst h5
    exact abs_plain hcell rfl rfl
  have hstr : ∀ c ∈ cs, ∃ s : ByteArray, c = .string s ∧ s.size ≤ reachBytes := fun c hc' => by
    obtain ⟨n, y, hy, hw⟩ := h3 c hc'
    obtain ⟨s, h5, h6, _⟩ := DataW.trod_string he hy
    simp only [List.cons.injEq, and_true] at h5
    subst h6
    exact ⟨s, h5, by have := hw s.data.toList.length (by simp [DataW.weights]); simpa using this⟩
  obtain ⟨l, hl1, hl2⟩ := map_of Value.string cs fun c hc' => by
    obtain ⟨s, h5, _⟩ := hstr c hc'
    exact ⟨s, h5, rfl⟩
  refine ⟨l, fun h => Rd.of_map (by rw [← hl1]; exact h1 h), h2, fun j hj => ?_, by rw [hl2] at h4; simpa using h4⟩
  have hm : Value.string l[j]! ∈ cs := by rw [hl2, getElem!_pos l j hj]; exact List.mem_map_of_mem (List.getElem_mem hj)
  obtain ⟨s, h5, h6⟩ := hstr _ hm
  cases h5
  exact h6
/-- a list of numbers -/
theorem rd_ints' {t e : TypeId} {k : IntKind} {fuel : Nat} {v : Value} {x : DataW H × List MemPlace} (ht : P.underlying t = some (.slice e)) (he : P.underlying e = some (.int k)) (hc : P.cellsOf e = 1) (hby : 0 < P.bytesOf e)
    (h : DataW.trod enc P W base (fun _ => true) held fuel t [v] = some x) (hsz : ∀ n ∈ x.1.weights P t, n ≤ reachBytes) :
    ∃ l : List Int, (∀ h, Rd (oldOf W) h (Value.int k) (absV v) l) ∧ bidN (absV v) = 0 ∧ (∀ z ∈ l, (Lit.int k z).wf = true) ∧ l.length * P.bytesOf e ≤ reachBytes := by
  obtain ⟨cs, h1, h2, h3, h4⟩ := rd_raw ht hc hby h hsz fun c n y hy b o hcell => by
    obtain ⟨s, h5, _⟩ := DataW.trod_int he hy
    simp only [List.cons.injEq, and_true] at h5
    subst h5
    exact abs_plain hcell rfl rfl
  have hstr : ∀ c ∈ cs, ∃ z : Int, c = .int k z ∧ (Lit.int k z).wf = true := fun c hc' => by
    obtain ⟨n, y, hy, _⟩ := h3 c hc'
    obtain ⟨s, h5, h6, h7⟩ := DataW.trod_int he hy
    simp only [List.cons.injEq, and_true] at h5
    exact ⟨s, h5, h7⟩
  obtain ⟨l, hl1, hl2⟩ := map_of (Value.int k) cs fun c hc' => by
    obtain ⟨s, h5, _⟩ := hstr c hc'
    exact ⟨s, h5, rfl⟩
  refine ⟨l, fun h => Rd.of_map (by rw [← hl1]; exact h1 h), h2, fun z hz => ?_, by rw [hl2] at h4; simpa using h4⟩
  obtain ⟨s, h5, h6⟩ := hstr (.int k z) (by rw [hl2]; exact List.mem_map_of_mem hz)
  cases h5
  exact h6
/-- a list of lists of numbers -/
theorem rd_rows {t e q : TypeId} {k : IntKind} {fuel : Nat} {v : Value} {x : DataW H × List MemPlace} (ht : P.underlying t = some (.slice e)) (he : P.underlying e = some (.slice q)) (hq : P.underlying q = some (.int k)) (hc : P.cellsOf e = 1) (hby : 0 < P.bytesOf e)
    (hcq : P.cellsOf q = 1) (hbq : 0 < P.bytesOf q) (h : DataW.trod enc P W base (fun _ => true) held fuel t [v] = some x) (hsz : ∀ n ∈ x.1.weights P t, n ≤ reachBytes) :
    ∃ (rs : List Value) (L : List (List Int)), (∀ h, Rd (oldOf W) h (fun x : Value => x) (absV v) rs) ∧ bidN (absV v) = 0 ∧ rs.length = L.length ∧ rs.length * P.bytesOf e ≤ reachBytes ∧
      ∀ j, j < L.length → (∀ h, Rd (oldOf W) h (Value.int k) rs[j]! L[j]!) ∧ bidN rs[j]! = 0 ∧ (∀ z ∈ L[j]!, (Lit.int k z).wf = true) ∧ L[j]!.length * P.bytesOf q ≤ reachBytes := by
  obtain ⟨cs, h1, h2, h3, h4⟩ := rd_raw ht hc hby h hsz fun c n y hy b o hcell => by
    rcases DataW.trod_slice he hy with ⟨h5, _⟩ | ⟨a, len, cap, elems, rest, n', rfl, h5, rfl, hb, hl, hm, hlen, hel, hsp, _⟩
    · simp only [List.cons.injEq, and_true] at h5
      subst h5
      exact abs_plain hcell rfl rfl
    · simp only [List.cons.injEq, and_true] at h5
      subst h5
      obtain ⟨hr1, hr2⟩ := hsp rfl
      obtain ⟨b', o', sp⟩ := a
      cases sp with
      | none => exact abs_plain hcell rfl rfl
      | some s =>
        by_cases hz : cap = 0
        · have hl0 : len = 0 := by omega
          subst hz hl0
          exact oldOf_odd hcell
        · exfalso
          have hcell0 : ∃ c, W.cell? (⟨b', o', some s⟩ : Addr) = some c := by
            by_cases h0 : 0 < len
            · have := hel 0 h0
              rw [hcq, Nat.mul_one, List.getElem?_eq_getElem (by omega)] at this
              simp only [Option.bind_eq_some_iff] at this
              obtain ⟨cs, h6, _⟩ := this
              unfold World.cells? at h6
              split at h6
              · simp only [List.range_one, List.mapM_cons, List.mapM_nil] at h6
                cases hq' : W.cell? (((⟨b', o', some s⟩ : Addr).add 0).add 0) with
                | none => rw [hq'] at h6; cases h6
                | some c => exact ⟨c, hq'⟩
              · cases h6
            · have := hr2 0 (by omega)
              rw [hcq, Nat.mul_one, List.getElem?_eq_getElem (by omega), show len + 0 = 0 by omega] at this
              simp only [Option.bind_eq_some_iff] at this
              obtain ⟨cs, h6, _⟩ := this
              unfold World.cells? at h6
              split at h6
              · simp only [List.range_one, List.mapM_cons, List.mapM_nil] at h6
                cases hq' : W.cell? (((⟨b', o', some s⟩ : Addr).add 0).add 0) with
                | none => rw [hq'] at h6; cases h6
                | some c => exact ⟨c, hq'⟩
              · cases h6
          obtain ⟨c, hcell0⟩ := hcell0
          simp only [World.cell?] at hcell0
          split at hcell0
          · simp at hcell0
          · cases hcell0
  have each : ∀ cs : List Value, (∀ c ∈ cs, ∃ n y, DataW.trod enc P W base (fun _ => true) held n e [c] = some y ∧ ∀ m ∈ y.1.weights P e, m ≤ reachBytes) →
      ∃ L : List (List Int), cs.length = L.length ∧ ∀ j, j < L.length → (∀ h, Rd (oldOf W) h (Value.int k) (cs.map absV)[j]! L[j]!) ∧ bidN (cs.map absV)[j]! = 0 ∧ (∀ z ∈ L[j]!, (Lit.int k z).wf = true) ∧ L[j]!.length * P.bytesOf q ≤ reachBytes := by
    intro cs
    induction cs with
    | nil => intro _; exact ⟨[], rfl, fun j hj => by simp at hj⟩
    | cons c cs ih =>
      intro hall
      obtain ⟨L, hL1, hL2⟩ := ih fun c hc => hall c (by simp [hc])
      obtain ⟨n, y, hy, hw⟩ := hall c (by simp)
      obtain ⟨l, l1, l2, l3, l4⟩ := rd_ints' he hq hcq hbq hy hw
      refine ⟨l :: L, by simp [hL1], fun j hj => ?_⟩
      cases j with
      | zero => exact ⟨by simpa using l1, by simpa using l2, by simpa using l3, by simpa using l4⟩
      | succ j => simpa using hL2 j (by simpa using hj)
  obtain ⟨L, hL1, hL2⟩ := each cs h3
  exact ⟨cs.map absV, L, h1, h2, by simp [hL1], by simpa using h4, hL2⟩
end
section
variable {H : Type} {enc : TypeId × Value → H} {P : Program} {W : World} {base : Nat} {held : Bool}
theorem okWide_spot {r : Reach} {b : Nat} {u : TypeId} {a : Addr} {n c : Nat} (h : Cell.okWide P W r b u (.slice (some a) n c)) : a.spot = none := by
  unfold Cell.okWide at h
  split at h
  all_goals first | (rename_i heq; cases heq; done) | skip
  unfold Cell.ok at h
  split at h
  all_goals first | (rename_i heq; cases heq; done) | skip
  · rename_i e a' len cap _ heq
    cases heq
    exact h.2.2.2.1
  · exact h.elim
theorem abs_ok {r : Reach} {b : Nat} {u : TypeId} {v : Value} (h : Cell.okWide P W r b u v) : absV v = v := by
  unfold absV
  split
  · rename_i b' o k
    have := okWide_spot h
    cases this
  · rfl
/-- an argument that is a structure of three parts, of one cell each -/
theorem open_three {t : TypeId} {f0 f1 f2 : Field} {b : Nat} {v : Value} {d : DataW H} {ps : List MemPlace} (ht : P.underlying t = some (.struct #[f0, f1, f2])) (o0 : f0.offset = 0) (o1 : f1.offset = 1) (o2 : f2.offset = 2)
    (c0 : P.cellsOf f0.type = 1) (c1 : P.cellsOf f1.type = 1) (c2 : P.cellsOf f2.type = 1) (ct : P.cellsOf t = 3) (hv : Value.okWide P W .any b t v) (h : DataW.Trod enc P W base (fun _ => true) held t v d ps) (hsz : ∀ n ∈ d.weights P t, n ≤ reachBytes) :
    ∃ (n : Nat) (a0 a1 a2 : Value) (y0 y1 y2 : DataW H × List MemPlace), v = .agg [a0, a1, a2].toArray ∧ absV a0 = a0 ∧ absV a1 = a1 ∧ absV a2 = a2 ∧
      DataW.trod enc P W base (fun _ => true) held n f0.type [a0] = some y0 ∧ DataW.trod enc P W base (fun _ => true) held n f1.type [a1] = some y1 ∧ DataW.trod enc P W base (fun _ => true) held n f2.type [a2] = some y2 ∧
      (∀ m ∈ y0.1.weights P f0.type, m ≤ reachBytes) ∧ (∀ m ∈ y1.1.weights P f1.type, m ≤ reachBytes) ∧ ∀ m ∈ y2.1.weights P f2.type, m ≤ reachBytes := by
  unfold Value.okWide at hv
  rw [ht] at hv
  obtain ⟨cs, rfl, hcs, ts, _, _, hrow⟩ := hv
  rw [ct] at hcs
  obtain ⟨l⟩ := cs
  simp only [List.size_toArray] at hcs
  obtain ⟨a0, a1, a2, rfl⟩ : ∃ a0 a1 a2, l = [a0, a1, a2] := by
    rcases l with _ | ⟨a0, _ | ⟨a1, _ | ⟨a2, _ | ⟨a3, l⟩⟩⟩⟩ <;> simp at hcs
    exact ⟨a0, a1, a2, rfl⟩
  obtain ⟨n, hn⟩ := h
  cases n with
  | zero => simp [DataW.trod] at hn
  | succ n =>
    have habs : ∀ i c, ([a0, a1, a2] : List Value)[i]? = some c → absV c = c := fun i c hc => by
      obtain ⟨u, _, hu⟩ := hrow i c (by simpa using hc)
      exact abs_ok hu
    unfold DataW.trod at hn
    simp only [ht, Value.cells] at hn
    rw [if_pos (by simp [ct])] at hn
    simp only [Option.map_eq_some_iff, List.mapM_cons, List.mapM_nil] at hn
    obtain ⟨xs, hx, hd⟩ := hn
    simp only [o0, o1, o2, c0, c1, c2, List.drop_zero, List.drop_succ_cons, List.take_succ_cons, List.take_zero] at hx
    cases h0 : DataW.trod enc P W base (fun _ => true) held n f0.type [a0] with
    | none => simp [h0] at hx
    | some y0 =>
      cases h1 : DataW.trod enc P W base (fun _ => true) held n f1.type [a1] with
      | none => simp [h0, h1] at hx
      | some y1 =>
        cases h2 : DataW.trod enc P W base (fun _ => true) held n f2.type [a2] with
        | none => simp [h0, h1, h2] at hx
        | some y2 =>
          have hxs : xs = [y0, y1, y2] := by simpa [h0, h1, h2] using hx.symm
          subst hxs
          simp only [Prod.mk.injEq] at hd
          obtain ⟨rfl, rfl⟩ := hd
          have hw : ∀ m, (m ∈ y0.1.weights P f0.type ∨ m ∈ y1.1.weights P f1.type ∨ m ∈ y2.1.weights P f2.type) → m ≤ reachBytes := fun m hm => hsz m (by
            simp only [DataW.weights, ht, List.map_cons, List.map_nil, DataW.weightsEach, List.mem_append]
            rcases hm with hm | hm | hm
            · exact Or.inl hm
            · exact Or.inr (Or.inl hm)
            · exact Or.inr (Or.inr (Or.inl hm)))
          exact ⟨n, a0, a1, a2, y0, y1, y2, rfl, habs 0 _ rfl, habs 1 _ rfl, habs 2 _ rfl, h0, h1, h2, fun m hm => hw m (Or.inl hm), fun m hm => hw m (Or.inr (Or.inl hm)), fun m hm => hw m (Or.inr (Or.inr hm))⟩
theorem abs_ids {a : Value} (h : absV a = a) (hb : bidN a = 0) (hs : ∃ x y z, a = .slice x y z) : ids 0 a = [] := by
  obtain ⟨x, y, z, rfl⟩ := hs
  rcases x with _ | ⟨b, o, _ | k⟩
  · rfl
  · rfl
  · simp [bidN, bidA] at hb
end
section
variable {H : Type} {enc : TypeId × Value → H} {P : Program} {W : World} {base : Nat} {held : Bool}
theorem trod_is_slice {t e : TypeId} {n : Nat} {v : Value} {x : DataW H × List MemPlace} (ht : P.underlying t = some (.slice e)) (h : DataW.trod enc P W base (fun _ => true) held n t [v] = some x) : ∃ a b c, v = .slice a b c := by
  rcases DataW.trod_slice ht h with ⟨h1, _⟩ | ⟨a, len, cap, _, _, _, _, h1, _⟩
  · exact ⟨_, _, _, by simpa using h1⟩
  · exact ⟨_, _, _, by simpa using h1⟩
theorem okWide_one {t : TypeId} {b : Nat} {v : Value} (ht : ∀ fs, P.underlying t ≠ some (.struct fs)) (ht' : ∀ n e, P.underlying t ≠ some (.array n e)) (hv : Value.okWide P W .any b t v) : Cell.okWide P W .any b t v := by
  unfold Value.okWide at hv
  split at hv
  · rename_i fs h; exact (ht fs h).elim
  · rename_i n e h; exact (ht' n e h).elim
  · exact hv
theorem open_str {t : TypeId} {b : Nat} {v : Value} {d : DataW H} {ps : List MemPlace} (ht : P.underlying t = some .string) (hv : Value.okWide P W .any b t v) (h : DataW.Trod enc P W base (fun _ => true) held t v d ps) (hsz : ∀ n ∈ d.weights P t, n ≤ reachBytes) :
    ∃ s : ByteArray, v = .string s ∧ s.size ≤ reachBytes := by
  have hc := okWide_one (by simp [ht]) (by simp [ht]) hv
  obtain ⟨n, hn⟩ := h
  obtain ⟨s, h1, h2, _⟩ := DataW.trod_string ht hn
  have hv' : v = .string s := by
    unfold Cell.okWide at hc
    simp only [ht, Cell.ok] at hc
    cases v <;> first | (exfalso; simp at hc; done) | (simpa [Value.cells] using h1)
  simp only [Prod.mk.injEq] at h2
  exact ⟨s, hv', by have := hsz s.data.toList.length (by rw [h2.1]; simp [DataW.weights]); simpa using this⟩
theorem open_num {t : TypeId} {k : IntKind} {b : Nat} {v : Value} {d : DataW H} {ps : List MemPlace} (ht : P.underlying t = some (.int k)) (hv : Value.okWide P W .any b t v) (h : DataW.Trod enc P W base (fun _ => true) held t v d ps) :
    ∃ z : Int, v = .int k z ∧ (Lit.int k z).wf = true := by
  have hc := okWide_one (by simp [ht]) (by simp [ht]) hv
  obtain ⟨n, hn⟩ := h
  obtain ⟨z, h1, _, h2⟩ := DataW.trod_int ht hn
  refine ⟨z, ?_, h2⟩
  unfold Cell.okWide at hc
  simp only [ht, Cell.ok] at hc
  cases v <;> first | (exfalso; simp at hc; done) | (simpa [Value.cells] using h1)
theorem open_flag {t : TypeId} {b : Nat} {v : Value} {d : DataW H} {ps : List MemPlace} (ht : P.underlying t = some .bool) (hv : Value.okWide P W .any b t v) (h : DataW.Trod enc P W base (fun _ => true) held t v d ps) :
    ∃ z : Bool, v = .bool z := by
  have hc := okWide_one (by simp [ht]) (by simp [ht]) hv
  obtain ⟨n, hn⟩ := h
  obtain ⟨z, h1, _⟩ := DataW.trod_bool ht hn
  refine ⟨z, ?_⟩
  unfold Cell.okWide at hc
  simp only [ht, Cell.ok] at hc
  cases v <;> first | (exfalso; simp at hc; done) | (simpa [Value.cells] using h1)
theorem wf64 {z : Int} (h : (Lit.int .i64 z).wf = true) : -9223372036854775808 ≤ z ∧ z ≤ 9223372036854775807 := by
  simp [Lit.wf, IntKind.min, IntKind.max, IntKind.signed, IntKind.bits] at h
  omega
theorem weights_at {ts : List TypeId} {ds : List (DataW H)} (h : (DataW.weightsEach P ts ds).all (· ≤ reachBytes) = true) {j : Nat} {t : TypeId} {d : DataW H} (ht : ts[j]? = some t) (hd : ds[j]? = some d) : ∀ n ∈ d.weights P t, n ≤ reachBytes := fun n hn => by
  have := List.all_eq_true.1 h n (DataW.weights_mem_each ht hd n hn)
  simpa using this
end
end Go.Itp
/-
  Arguments of more kinds: lists and lists of lists of any elements of one cell; structures of two parts.
-/
namespace Go.Itp
set_option linter.unusedVariables false
set_option linter.unusedSimpArgs false
open Go.ChangeShapes Go.WideShapes
section
variable {H : Type} {enc : TypeId × Value → H} {P : Program} {W : World} {base : Nat} {held : Bool}
/-- a list of elements of one cell each -/
theorem rd_list {α : Type} {f : α → Value} {Q : α → Prop} (hf : ∀ a, absV (f a) = f a ∧ ids 0 (f a) = []) (hinj : ∀ a b, f a = f b → a = b) {t e : TypeId} {fuel : Nat} {v : Value} {x : DataW H × List MemPlace}
    (hdec : ∀ (c : Value) (n : Nat) (y : DataW H × List MemPlace), DataW.trod enc P W base (fun _ => true) held n e [c] = some y → (∀ m ∈ y.1.weights P e, m ≤ reachBytes) → ∃ a, c = f a ∧ Q a)
    (hdec' : ∀ (c : Value) (n : Nat) (y : DataW H × List MemPlace), DataW.trod enc P W base (fun _ => true) held n e [c] = some y → ∃ a, c = f a)
    (ht : P.underlying t = some (.slice e)) (hc : P.cellsOf e = 1) (hby : 0 < P.bytesOf e)
    (h : DataW.trod enc P W base (fun _ => true) held fuel t [v] = some x) (hsz : ∀ n ∈ x.1.weights P t, n ≤ reachBytes) :
    ∃ l : List α, (∀ h, Rd (oldOf W) h f (absV v) l) ∧ bidN (absV v) = 0 ∧ (∀ a ∈ l, Q a) ∧ l.length * P.bytesOf e ≤ reachBytes := by
  obtain ⟨cs, h1, h2, h3, h4⟩ := rd_raw ht hc hby h hsz fun c n y hy b o hcell => by
    obtain ⟨a, rfl⟩ := hdec' c n y hy
    exact abs_plain hcell (hf a).2 (hf a).1
  have hstr : ∀ c ∈ cs, ∃ a, c = f a ∧ Q a := fun c hc' => by
    obtain ⟨n, y, hy, hw⟩ := h3 c hc'
    exact hdec c n y hy hw
  obtain ⟨l, hl1, hl2⟩ := map_of f cs fun c hc' => by
    obtain ⟨a, h5, _⟩ := hstr c hc'
    exact ⟨a, h5, (hf a).1⟩
  refine ⟨l, fun h => Rd.of_map (by rw [← hl1]; exact h1 h), h2, fun z hz => ?_, by rw [hl2] at h4; simpa using h4⟩
  obtain ⟨a, h5, h6⟩ := hstr (f z) (by rw [hl2]; exact List.mem_map_of_mem hz)
  rw [hinj _ _ h5]
  exact h6
/-- a list of slices -/
theorem rd_slices {α : Type} [Inhabited α] {R : α → Value → Prop} {t e q : TypeId} {fuel : Nat} {v : Value} {x : DataW H × List MemPlace} (ht : P.underlying t = some (.slice e)) (he : P.underlying e = some (.slice q)) (hc : P.cellsOf e = 1) (hby : 0 < P.bytesOf e)
    (hcq : P.cellsOf q = 1) (h : DataW.trod enc P W base (fun _ => true) held fuel t [v] = some x) (hsz : ∀ n ∈ x.1.weights P t, n ≤ reachBytes)
    (hin : ∀ (c : Value) (n : Nat) (y : DataW H × List MemPlace), DataW.trod enc P W base (fun _ => true) held n e [c] = some y → (∀ m ∈ y.1.weights P e, m ≤ reachBytes) → ∃ a, R a (absV c)) :
    ∃ (rs : List Value) (L : List α), (∀ h, Rd (oldOf W) h (fun x : Value => x) (absV v) rs) ∧ bidN (absV v) = 0 ∧ rs.length = L.length ∧ rs.length * P.bytesOf e ≤ reachBytes ∧ ∀ j, j < L.length → R L[j]! rs[j]! := by
  obtain ⟨cs, h1, h2, h3, h4⟩ := rd_raw ht hc hby h hsz fun c n y hy b o hcell => by
    rcases DataW.trod_slice he hy with ⟨h5, _⟩ | ⟨a, len, cap, elems, rest, n', rfl, h5, rfl, hb, hl, hm, hlen, hel, hsp, _⟩
    · simp only [List.cons.injEq, and_true] at h5
      subst h5
      exact abs_plain hcell rfl rfl
    · simp only [List.cons.injEq, and_true] at h5
      subst h5
      obtain ⟨hr1, hr2⟩ := hsp rfl
      obtain ⟨b', o', sp⟩ := a
      cases sp with
      | none => exact abs_plain hcell rfl rfl
      | some s =>
        by_cases hz : cap = 0
        · have hl0 : len = 0 := by omega
          subst hz hl0
          exact oldOf_odd hcell
        · exfalso
          have hcell0 : ∃ c, W.cell? (⟨b', o', some s⟩ : Addr) = some c := by
            by_cases h0 : 0 < len
            · have := hel 0 h0
              rw [hcq, Nat.mul_one, List.getElem?_eq_getElem (by omega)] at this
              simp only [Option.bind_eq_some_iff] at this
              obtain ⟨cs, h6, _⟩ := this
              unfold World.cells? at h6
              split at h6
              · simp only [List.range_one, List.mapM_cons, List.mapM_nil] at h6
                cases hq' : W.cell? (((⟨b', o', some s⟩ : Addr).add 0).add 0) with
                | none => rw [hq'] at h6; cases h6
                | some c => exact ⟨c, hq'⟩
              · cases h6
            · have := hr2 0 (by omega)
              rw [hcq, Nat.mul_one, List.getElem?_eq_getElem (by omega), show len + 0 = 0 by omega] at this
              simp only [Option.bind_eq_some_iff] at this
              obtain ⟨cs, h6, _⟩ := this
              unfold World.cells? at h6
              split at h6
              · simp only [List.range_one, List.mapM_cons, List.mapM_nil] at h6
                cases hq' : W.cell? (((⟨b', o', some s⟩ : Addr).add 0).add 0) with
                | none => rw [hq'] at h6; cases h6
                | some c => exact ⟨c, hq'⟩
              · cases h6
          obtain ⟨c, hcell0⟩ := hcell0
          simp only [World.cell?] at hcell0
          split at hcell0
          · simp at hcell0
          · cases hcell0
  have each : ∀ cs : List Value, (∀ c ∈ cs, ∃ n y, DataW.trod enc P W base (fun _ => true) held n e [c] = some y ∧ ∀ m ∈ y.1.weights P e, m ≤ reachBytes) →
      ∃ L : List α, cs.length = L.length ∧ ∀ j, j < L.length → R L[j]! (cs.map absV)[j]! := by
    intro cs
    induction cs with
    | nil => intro _; exact ⟨[], rfl, fun j hj => by simp at hj⟩
    | cons c cs ih =>
      intro hall
      obtain ⟨L, hL1, hL2⟩ := ih fun c hc => hall c (by simp [hc])
      obtain ⟨n, y, hy, hw⟩ := hall c (by simp)
      obtain ⟨a, ha⟩ := hin c n y hy hw
      refine ⟨a :: L, by simp [hL1], fun j hj => ?_⟩
      cases j with
      | zero => simpa using ha
      | succ j => simpa using hL2 j (by simpa using hj)
  obtain ⟨L, hL1, hL2⟩ := each cs h3
  exact ⟨cs.map absV, L, h1, h2, by simp [hL1], by simpa using h4, hL2⟩
theorem dec_bool {e : TypeId} (he : P.underlying e = some .bool) (c : Value) (n : Nat) (y : DataW H × List MemPlace) (h : DataW.trod enc P W base (fun _ => true) held n e [c] = some y) : ∃ b : Bool, c = .bool b := by
  obtain ⟨z, h1, _⟩ := DataW.trod_bool he h
  exact ⟨z, by simpa using h1⟩
/-- a list of bools -/
theorem rd_bools {t e : TypeId} {fuel : Nat} {v : Value} {x : DataW H × List MemPlace} (ht : P.underlying t = some (.slice e)) (he : P.underlying e = some .bool) (hc : P.cellsOf e = 1) (hby : 0 < P.bytesOf e)
    (h : DataW.trod enc P W base (fun _ => true) held fuel t [v] = some x) (hsz : ∀ n ∈ x.1.weights P t, n ≤ reachBytes) :
    ∃ l : List Bool, (∀ h, Rd (oldOf W) h Value.bool (absV v) l) ∧ bidN (absV v) = 0 ∧ l.length * P.bytesOf e ≤ reachBytes := by
  obtain ⟨l, h1, h2, _, h4⟩ := rd_list (f := Value.bool) (Q := fun _ => True) (fun a => ⟨rfl, rfl⟩) (fun a b h => by cases h; rfl) (fun c n y h _ => by
    obtain ⟨b, hb⟩ := dec_bool he c n y h; exact ⟨b, hb, trivial⟩) (fun c n y h => dec_bool he c n y h) ht hc hby h hsz
  exact ⟨l, h1, h2, h4⟩
/-- a list of lists of bools -/
theorem rd_rows_bool {t e q : TypeId} {fuel : Nat} {v : Value} {x : DataW H × List MemPlace} (ht : P.underlying t = some (.slice e)) (he : P.underlying e = some (.slice q)) (hq : P.underlying q = some .bool) (hc : P.cellsOf e = 1) (hby : 0 < P.bytesOf e)
    (hcq : P.cellsOf q = 1) (hbq : 0 < P.bytesOf q) (h : DataW.trod enc P W base (fun _ => true) held fuel t [v] = some x) (hsz : ∀ n ∈ x.1.weights P t, n ≤ reachBytes) :
    ∃ (rs : List Value) (L : List (List Bool)), (∀ h, Rd (oldOf W) h (fun x : Value => x) (absV v) rs) ∧ bidN (absV v) = 0 ∧ rs.length = L.length ∧ rs.length * P.bytesOf e ≤ reachBytes ∧
      ∀ j, j < L.length → (∀ h, Rd (oldOf W) h Value.bool rs[j]! L[j]!) ∧ bidN rs[j]! = 0 ∧ L[j]!.length * P.bytesOf q ≤ reachBytes :=
  rd_slices (R := fun (l : List Bool) c => (∀ h, Rd (oldOf W) h Value.bool c l) ∧ bidN c = 0 ∧ l.length * P.bytesOf q ≤ reachBytes) ht he hc hby hcq h hsz fun c n y hy hw => rd_bools he hq hcq hbq hy hw
/-- an argument that is a structure of two parts, of one cell each -/
theorem open_two {t : TypeId} {f0 f1 : Field} {b : Nat} {v : Value} {d : DataW H} {ps : List MemPlace} (ht : P.underlying t = some (.struct #[f0, f1])) (o0 : f0.offset = 0) (o1 : f1.offset = 1)
    (c0 : P.cellsOf f0.type = 1) (c1 : P.cellsOf f1.type = 1) (ct : P.cellsOf t = 2) (hv : Value.okWide P W .any b t v) (h : DataW.Trod enc P W base (fun _ => true) held t v d ps) (hsz : ∀ n ∈ d.weights P t, n ≤ reachBytes) :
    ∃ (n : Nat) (a0 a1 : Value) (y0 y1 : DataW H × List MemPlace), v = .agg [a0, a1].toArray ∧ absV a0 = a0 ∧ absV a1 = a1 ∧
      DataW.trod enc P W base (fun _ => true) held n f0.type [a0] = some y0 ∧ DataW.trod enc P W base (fun _ => true) held n f1.type [a1] = some y1 ∧
      (∀ m ∈ y0.1.weights P f0.type, m ≤ reachBytes) ∧ (∀ m ∈ y1.1.weights P f1.type, m ≤ reachBytes) := by
  unfold Value.okWide at hv
  rw [ht] at hv
  obtain ⟨cs, rfl, hcs, ts, _, _, hrow⟩ := hv
  rw [ct] at hcs
  obtain ⟨l⟩ := cs
  simp only [List.size_toArray] at hcs
  obtain ⟨a0, a1, rfl⟩ : ∃ a0 a1, l = [a0, a1] := by
    rcases l with _ | ⟨a0, _ | ⟨a1, _ | ⟨a2, l⟩⟩⟩ <;> simp at hcs
    exact ⟨a0, a1, rfl⟩
  obtain ⟨n, hn⟩ := h
  cases n with
  | zero => simp [DataW.trod] at hn
  | succ n =>
    have habs : ∀ i c, ([a0, a1] : List Value)[i]? = some c → absV c = c := fun i c hc => by
      obtain ⟨u, _, hu⟩ := hrow i c (by simpa using hc)
      exact abs_ok hu
    unfold DataW.trod at hn
    simp only [ht, Value.cells] at hn
    rw [if_pos (by simp [ct])] at hn
    simp only [Option.map_eq_some_iff, List.mapM_cons, List.mapM_nil] at hn
    obtain ⟨xs, hx, hd⟩ := hn
    simp only [o0, o1, c0, c1, List.drop_zero, List.drop_succ_cons, List.take_succ_cons, List.take_zero] at hx
    cases h0 : DataW.trod enc P W base (fun _ => true) held n f0.type [a0] with
    | none => simp [h0] at hx
    | some y0 =>
      cases h1 : DataW.trod enc P W base (fun _ => true) held n f1.type [a1] with
      | none => simp [h0, h1] at hx
      | some y1 =>
        have hxs : xs = [y0, y1] := by simpa [h0, h1] using hx.symm
        subst hxs
        simp only [Prod.mk.injEq] at hd
        obtain ⟨rfl, rfl⟩ := hd
        have hw : ∀ m, (m ∈ y0.1.weights P f0.type ∨ m ∈ y1.1.weights P f1.type) → m ≤ reachBytes := fun m hm => hsz m (by
          simp only [DataW.weights, ht, List.map_cons, List.map_nil, DataW.weightsEach, List.mem_append]
          rcases hm with hm | hm
          · exact Or.inl hm
          · exact Or.inr (Or.inl hm))
        exact ⟨n, a0, a1, y0, y1, rfl, habs 0 _ rfl, habs 1 _ rfl, h0, h1, fun m hm => hw m (Or.inl hm), fun m hm => hw m (Or.inr hm)⟩
end
end Go.Itp
