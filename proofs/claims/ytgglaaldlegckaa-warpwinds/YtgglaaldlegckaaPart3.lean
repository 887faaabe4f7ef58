/- What is proved: the law WarpWinds returns true for every input. Conditions: none.
   Texts: Walk4, V1, V2, V3, V4, V5, V6, V7, V8, V9.
-/
import Derived.Test.YtgglaaldlegckaaPart2
/-
  Calls, results, slices that grow, stores: for computing with unknowns.
-/
namespace Go.Itp

/-! ### results -/
def RetX (o : Option (List Value)) (n0 : Nat) (h : Heap) (Q : Value → List Blk → Prop) : Prop := ∃ vs v bs, o = some vs ∧ gc n0 h (tupleOf vs) = some (v, bs) ∧ Q v bs
def RetP (E : Env) (res : List (Nat × Option (Option Nat))) (n0 : Nat) (Q : Value → List Blk → Prop) : Ex → Fr → St → Prop
  | .exit _, _, _ => False
  | _, fr, s => RetX (resOf E fr s res) n0 s.heap Q
theorem retP_ret (E res n0 Q fr s) : RetP E res n0 Q .ret fr s = RetX (resOf E fr s res) n0 s.heap Q := rfl
theorem retP_normal (E res n0 Q fr s) : RetP E res n0 Q .normal fr s = RetX (resOf E fr s res) n0 s.heap Q := rfl
theorem resOf_nil (E : Env) (fr : Fr) (s : St) : resOf E fr s [] = some [] := rfl
theorem resOf_tmp (E : Env) (fr : Fr) (s : St) (t : Nat) (r : List (Nat × Option (Option Nat))) : resOf E fr s ((t, none) :: r) = consO (fget fr t) (resOf E fr s r) := by
  simp only [resOf]
  cases fget fr t <;> cases resOf E fr s r <;> rfl
theorem resOf_cell (E : Env) (fr : Fr) (s : St) (t : Nat) (g : Option Nat) (r : List (Nat × Option (Option Nat))) : resOf E fr s ((t, some g) :: r) = consO (op1 (loadA E s.heap g) (fget fr t)) (resOf E fr s r) := by
  simp only [resOf]
  cases fget fr t with
  | none => rfl
  | some v =>
    cases v with
    | pointer a =>
      cases a with
      | none => simp [op1, loadA, consO]
      | some a =>
        simp only [Option.bind_some, op1, loadA]
        cases loadG E s.heap a g with
        | none => simp [consO]
        | some u => cases resOf E fr s r <;> simp [consO]
    | _ => simp [op1, loadA, consO]
theorem tupleOf_one (v : Value) : tupleOf [v] = v := rfl
theorem tupleOf_two (a b : Value) (r : List Value) : tupleOf (a :: b :: r) = .tuple (a :: b :: r).toArray := rfl
theorem retX_some (vs : List Value) (n0 : Nat) (h : Heap) (Q) : RetX (some vs) n0 h Q = ∃ v bs, gc n0 h (tupleOf vs) = some (v, bs) ∧ Q v bs := by
  apply propext
  constructor
  · rintro ⟨_, v, bs, h1, h2, h3⟩
    cases h1
    exact ⟨v, bs, h2, h3⟩
  · rintro ⟨v, bs, h2, h3⟩
    exact ⟨_, v, bs, rfl, h2, h3⟩

theorem gc_none {n0 : Nat} {h : Heap} {v : Value} (hv : ids n0 v = []) : gc n0 h v = some (v, []) := by
  unfold gc; rw [hv]
theorem renTo_lt {n0 : Nat} {ord : List Nat} : ∀ i, i < n0 → renTo n0 ord i = i := fun i hi => by
  unfold renTo; rw [if_pos (by rw [Nat.blt_eq]; exact hi)]
theorem gc_one {n0 i : Nat} {h : Heap} {v : Value} {b : Blk} (hv : ids n0 v = [i]) (hb : hget h i = some b) (hc : idsL n0 b.cells = []) : gc n0 h v = some (ren (renTo n0 [i]) v, [b]) := by
  unfold gc
  rw [hv]
  have h1 : reach n0 h 1000000 [i] [] = some [i] := by
    show reach n0 h (999999 + 1) [i] [] = some [i]
    simp only [reach, elemB, hb, Option.bind_some, hc, List.nil_append]
    simp
  simp only [reachA, h1, Option.bind_some, List.reverse_cons, List.reverse_nil, List.nil_append, pickUp, hb, Option.map_some]
  rw [renL_id (n0 := n0) (fun j hj => renTo_lt j hj) _ hc]
theorem gc_two {n0 i j : Nat} {h : Heap} {v : Value} {b c : Blk} (hv : ids n0 v = [i, j]) (hij : ¬ i = j) (hb : hget h i = some b) (hc : hget h j = some c) (hb0 : idsL n0 b.cells = []) (hc0 : idsL n0 c.cells = []) :
    gc n0 h v = some (ren (renTo n0 [i, j]) v, [b, c]) := by
  unfold gc
  rw [hv]
  have h1 : reach n0 h 1000000 [i, j] [] = some [j, i] := by
    show reach n0 h (999998 + 1 + 1) [i, j] [] = some [j, i]
    have e2 : Nat.beq j i = false := by rw [Bool.eq_false_iff]; exact fun h => hij (nbeq.1 h).symm
    simp [reach, elemB, hb, hc, hb0, hc0, e2]
  simp only [reachA, h1, Option.bind_some, List.reverse_cons, List.reverse_nil, List.nil_append, List.cons_append, pickUp, hb, hc, Option.map_some]
  rw [renL_id (n0 := n0) (fun j hj => renTo_lt j hj) _ hc0, renL_id (n0 := n0) (fun j hj => renTo_lt j hj) _ hb0]
theorem gc_int (n0 : Nat) (h : Heap) (k : IntKind) (z : Int) : gc n0 h (.int k z) = some (.int k z, []) := rfl
theorem gc_bool (n0 : Nat) (h : Heap) (b : Bool) : gc n0 h (.bool b) = some (.bool b, []) := rfl
theorem gc_string (n0 : Nat) (h : Heap) (b : ByteArray) : gc n0 h (.string b) = some (.string b, []) := rfl
theorem gc_nil_int (n0 : Nat) (h : Heap) (n c : Nat) (k : IntKind) (z : Int) : gc n0 h (.tuple [.slice none n c, .int k z].toArray) = some (.tuple [.slice none n c, .int k z].toArray, []) := rfl
theorem gc_int_int (n0 : Nat) (h : Heap) (k j : IntKind) (z y : Int) : gc n0 h (.tuple [.int k z, .int j y].toArray) = some (.tuple [.int k z, .int j y].toArray, []) := rfl
theorem gc_string_int (n0 : Nat) (h : Heap) (b : ByteArray) (k : IntKind) (z : Int) : gc n0 h (.tuple [.string b, .int k z].toArray) = some (.tuple [.string b, .int k z].toArray, []) := rfl
theorem ids_int (n0 : Nat) (k : IntKind) (z : Int) : ids n0 (.int k z) = [] := rfl
theorem ids_bool (n0 : Nat) (b : Bool) : ids n0 (.bool b) = [] := rfl
theorem ids_string (n0 : Nat) (b : ByteArray) : ids n0 (.string b) = [] := rfl
theorem ids_tuple (n0 : Nat) (l : List Value) : ids n0 (.tuple l.toArray) = idsL n0 l := rfl
theorem ids_agg (n0 : Nat) (l : List Value) : ids n0 (.agg l.toArray) = idsL n0 l := rfl
theorem ids_nil (n0 n c : Nat) : ids n0 (.slice none n c) = [] := rfl
theorem ids_slice (n0 i o p n c : Nat) (h : n0 ≤ i) : ids n0 (.slice (some ⟨i, o, some p⟩) n c) = [i] := by simp [ids, addrIds, h]
theorem ids_pointer (n0 i o p : Nat) (h : n0 ≤ i) : ids n0 (.pointer (some ⟨i, o, some p⟩)) = [i] := by simp [ids, addrIds, h]
theorem ids_nilp (n0 : Nat) : ids n0 (.pointer none) = [] := rfl
theorem ids_nili (n0 : Nat) : ids n0 .nilIface = [] := rfl
theorem ids_low {n0 : Nat} {v : Value} (a : Option Addr) (n c : Nat) (hv : v = .slice a n c) (h : bidN v ≤ n0) : ids n0 v = [] := by
  subst hv
  rcases a with _ | ⟨b, o, sp⟩
  · rfl
  · cases sp with
    | none => rfl
    | some p => simp [bidN, bidA] at h; simp [ids, addrIds]; omega
theorem idsL_nil (n0 : Nat) : idsL n0 [] = [] := rfl
theorem idsL_cons (n0 : Nat) (v : Value) (l : List Value) : idsL n0 (v :: l) = ids n0 v ++ idsL n0 l := rfl
theorem idsL_map {α : Type} {f : α → Value} {n0 : Nat} (hf : ∀ x, ids n0 (f x) = []) : ∀ l : List α, idsL n0 (l.map f) = []
  | [] => rfl
  | x :: l => by simp [idsL, hf, idsL_map hf l]
theorem ren_int (g : Nat → Nat) (k : IntKind) (z : Int) : ren g (.int k z) = .int k z := rfl
theorem ren_bool (g : Nat → Nat) (b : Bool) : ren g (.bool b) = .bool b := rfl
theorem ren_string (g : Nat → Nat) (b : ByteArray) : ren g (.string b) = .string b := rfl
theorem ren_nil (g : Nat → Nat) (n c : Nat) : ren g (.slice none n c) = .slice none n c := rfl
theorem ren_tuple (g : Nat → Nat) (l : List Value) : ren g (.tuple l.toArray) = .tuple (renL g l).toArray := rfl
theorem ren_agg (g : Nat → Nat) (l : List Value) : ren g (.agg l.toArray) = .agg (renL g l).toArray := rfl
theorem renL_nil (g : Nat → Nat) : renL g [] = [] := rfl
theorem renL_cons (g : Nat → Nat) (v : Value) (l : List Value) : renL g (v :: l) = ren g v :: renL g l := rfl
theorem ren_slice (g : Nat → Nat) (i o p n c : Nat) : ren g (.slice (some ⟨i, o, some p⟩) n c) = .slice (some ⟨g i, o, some p⟩) n c := rfl
theorem renTo_one (n0 i : Nat) (h : n0 ≤ i) : renTo n0 [i] i = n0 := by
  unfold renTo; rw [if_neg (by rw [Nat.blt_eq]; omega)]; simp [indexOf]
theorem renTo_fst (n0 i j : Nat) (h : n0 ≤ i) : renTo n0 [i, j] i = n0 := by
  unfold renTo; rw [if_neg (by rw [Nat.blt_eq]; omega)]; simp [indexOf]
theorem renTo_snd (n0 i j : Nat) (h : n0 ≤ j) (hij : ¬ j = i) : renTo n0 [i, j] j = n0 + 1 := by
  unfold renTo; rw [if_neg (by rw [Nat.blt_eq]; omega)]
  have : Nat.beq j i = false := by rw [Bool.eq_false_iff]; exact fun h => hij (nbeq.1 h)
  simp [indexOf, this]

theorem gc_slice {n0 i o p n c : Nat} {h : Heap} {b : Blk} (hi : n0 ≤ i) (hb : hget h i = some b) (hc : idsL n0 b.cells = []) :
    gc n0 h (.slice (some ⟨i, o, some p⟩) n c) = some (.slice (some ⟨n0, o, some p⟩) n c, [b]) := by
  rw [gc_one (ids_slice n0 i o p n c hi) hb hc, ren_slice, renTo_one n0 i hi]
theorem gc_slice_int {n0 i o p n c : Nat} {h : Heap} {b : Blk} {k : IntKind} {z : Int} (hi : n0 ≤ i) (hb : hget h i = some b) (hc : idsL n0 b.cells = []) :
    gc n0 h (.tuple [.slice (some ⟨i, o, some p⟩) n c, .int k z].toArray) = some (.tuple [.slice (some ⟨n0, o, some p⟩) n c, .int k z].toArray, [b]) := by
  rw [gc_one (by rw [ids_tuple, idsL_cons, ids_slice n0 i o p n c hi]; rfl) hb hc, ren_tuple, renL_cons, ren_slice, renTo_one n0 i hi]
  rfl
def gcO (o : Option (List Value)) (n0 : Nat) (h : Heap) : Option (Value × List Blk) := o.bind fun vs => gc n0 h (tupleOf vs)
theorem gcO_some (vs : List Value) (n0 : Nat) (h : Heap) : gcO (some vs) n0 h = gc n0 h (tupleOf vs) := rfl
def RetE (E : Env) (res : List (Nat × Option (Option Nat))) (n0 : Nat) (r : Option (Value × List Blk)) : Ex → Fr → St → Prop
  | .exit _, _, _ => False
  | _, fr, s => gcO (resOf E fr s res) n0 s.heap = r
theorem retE_ret (E res n0 r fr s) : RetE E res n0 r .ret fr s = (gcO (resOf E fr s res) n0 s.heap = r) := rfl
theorem retE_normal (E res n0 r fr s) : RetE E res n0 r .normal fr s = (gcO (resOf E fr s res) n0 s.heap = r) := rfl
/-! ### calls -/
section
variable {old : Nat → Nat → Option Value} {r : Nat} {fns : FuncId → Option AFun} {prims : FuncId → List Value → St → Option (Value × List Blk)} {n : Nat} {f : FuncId} {xs : List Value} {s : St} {code : AC} {nt : Nat} {res : List (Nat × Option (Option Nat))}
theorem body_of {E : Env} {af : AFun} {Q : Value → List Blk → Prop} {n0 : Nat} (hlen : xs.length ≤ af.n) (h : Does (go E af.code [] (args0 0 xs) s) (RetP E af.res n0 Q)) :
    ∃ u s', body E af xs s = some (u, s') ∧ ∃ v bs, gc n0 s'.heap u = some (v, bs) ∧ Q v bs := by
  obtain ⟨ex, fr, s', he, hq⟩ := h
  have key : RetX (resOf E fr s' af.res) n0 s'.heap Q → (match ex with | .exit _ => False | _ => True) → ∃ u s', body E af xs s = some (u, s') ∧ ∃ v bs, gc n0 s'.heap u = some (v, bs) ∧ Q v bs := by
    rintro ⟨vs, v, bs, h1, h2, h3⟩ hx
    refine ⟨tupleOf vs, s', ?_, v, bs, h2, h3⟩
    unfold body
    rw [if_pos (by rw [Nat.ble_eq]; exact hlen), exec_go, he]
    cases ex with
    | exit i => exact hx.elim
    | normal => simp [h1]
    | ret => simp [h1]
  cases ex with
  | exit i => exact hq.elim
  | normal => exact key hq trivial
  | ret => exact key hq trivial
theorem pcall_ex {Q : Value → List Blk → Prop} (hf : fns f = some ⟨code, nt, res, true⟩) (hp : prims f xs s = none) (hlen : xs.length ≤ nt)
    (h : Does (go (callP old r fns prims n) code [] (args0 0 xs) ⟨s.heap, s.next, s.next⟩) (RetP (callP old r fns prims n) res s.next Q)) : ∃ v bs, (callP old r fns prims (n + 1)).pcall f xs s = some (v, bs) ∧ Q v bs := by
  obtain ⟨u, s', hb, v, bs, hg, hq⟩ := body_of (af := ⟨code, nt, res, true⟩) hlen h
  refine ⟨v, bs, ?_, hq⟩
  simp only [callP, hp, hf, Option.bind_some, if_true, hb, hg]
theorem pcall_eq {v : Value} {bs : List Blk} (hf : fns f = some ⟨code, nt, res, true⟩) (hp : prims f xs s = none) (hlen : xs.length ≤ nt)
    (h : Does (go (callP old r fns prims n) code [] (args0 0 xs) ⟨s.heap, s.next, s.next⟩) (RetE (callP old r fns prims n) res s.next (some (v, bs)))) : (callP old r fns prims (n + 1)).pcall f xs s = some (v, bs) := by
  have h' : Does (go (callP old r fns prims n) code [] (args0 0 xs) ⟨s.heap, s.next, s.next⟩) (RetP (callP old r fns prims n) res s.next fun v' bs' => v' = v ∧ bs' = bs) := by
    refine h.mono fun ex fr t hq => ?_
    have key : gcO (resOf (callP old r fns prims n) fr t res) s.next t.heap = some (v, bs) → RetX (resOf (callP old r fns prims n) fr t res) s.next t.heap fun v' bs' => v' = v ∧ bs' = bs := fun h => by
      unfold gcO at h
      cases ho : resOf (callP old r fns prims n) fr t res with
      | none => rw [ho] at h; cases h
      | some vs => rw [ho] at h; exact ⟨vs, v, bs, rfl, h, rfl, rfl⟩
    cases ex with
    | exit i => exact hq.elim
    | normal => exact key hq
    | ret => exact key hq
  obtain ⟨v', bs', h1, rfl, rfl⟩ := pcall_ex hf hp hlen h'
  exact h1
theorem pcall_imp {af : AFun} (hf : fns f = some af) (hpu : af.pure = false) (hp : prims f xs s = none) : (callP old r fns prims (n + 1)).pcall f xs s = none := by
  simp [callP, hp, hf, hpu]
def RetW (E : Env) (res : List (Nat × Option (Option Nat))) (Q : Value → St → Prop) : Ex → Fr → St → Prop
  | .exit _, _, _ => False
  | _, fr, s => ∃ vs, resOf E fr s res = some vs ∧ Q (tupleOf vs) s
def RetWX (o : Option (List Value)) (s : St) (Q : Value → St → Prop) : Prop := ∃ vs, o = some vs ∧ Q (tupleOf vs) s
theorem retW_ret (E res Q fr s) : RetW E res Q .ret fr s = RetWX (resOf E fr s res) s Q := rfl
theorem retW_normal (E res Q fr s) : RetW E res Q .normal fr s = RetWX (resOf E fr s res) s Q := rfl
theorem retWX_some (vs : List Value) (s : St) (Q) : RetWX (some vs) s Q = Q (tupleOf vs) s := by
  apply propext
  constructor
  · rintro ⟨_, h, q⟩
    cases h
    exact q
  · exact fun q => ⟨_, rfl, q⟩
theorem body_w {E : Env} {af : AFun} {Q : Value → St → Prop} (hlen : xs.length ≤ af.n) (h : Does (go E af.code [] (args0 0 xs) s) (RetW E af.res Q)) : ∃ v s', body E af xs s = some (v, s') ∧ Q v s' := by
  obtain ⟨ex, fr, s', he, hq⟩ := h
  cases ex with
  | exit i => exact hq.elim
  | normal =>
    obtain ⟨vs, h1, h2⟩ := hq
    exact ⟨_, s', by unfold body; rw [if_pos (by rw [Nat.ble_eq]; exact hlen), exec_go, he]; simp [h1], h2⟩
  | ret =>
    obtain ⟨vs, h1, h2⟩ := hq
    exact ⟨_, s', by unfold body; rw [if_pos (by rw [Nat.ble_eq]; exact hlen), exec_go, he]; simp [h1], h2⟩
theorem wcall_ex {Q : Value → St → Prop} (hf : fns f = some ⟨code, nt, res, false⟩) (hlen : xs.length ≤ nt)
    (h : Does (go (callP old r fns prims n) code [] (args0 0 xs) s) (RetW (callP old r fns prims n) res Q)) : ∃ v s', (callP old r fns prims (n + 1)).wcall f xs s = some (v, s') ∧ Q v s' := by
  obtain ⟨v, s', hb, hq⟩ := body_w (af := ⟨code, nt, res, false⟩) hlen h
  refine ⟨v, s', ?_, hq⟩
  simp [callP, hf, hb]
end

/-! ### stores -/
def storeB (o : Option Blk) (s : St) (i k : Nat) (v : Value) : Option (Value × St) :=
  match o with
  | some b => if Nat.ble s.prot i && oneCell v && Nat.blt k b.cells.length then some (.tuple #[], ⟨hset s.heap i { b with cells := b.cells.set k v }, s.next, s.prot⟩) else none
  | none => none
theorem lput_one (v : Value) : ∀ (cs : List Value) (k : Nat), k < cs.length → lput cs k [v] = some (cs.set k v)
  | [], k, h => by simp at h
  | c :: cs, 0, _ => by simp [lput]
  | c :: cs, k + 1, h => by simp [lput, lput_one v cs k (by simpa using h)]
theorem cells_one {v : Value} (h : oneCell v = true) : v.cells.toList = [v] := by
  cases v <;> first | rfl | (simp [oneCell] at h)
theorem store_new (s : St) (i k p : Nat) (v : Value) (e g t) (cs : List Value) (hh : hget s.heap i = some ⟨cs, e, g, t⟩) (h0 : s.prot ≤ i) (hv : oneCell v = true) (hk : k < cs.length) :
    storeA s 1 (.pointer (some ⟨i, k, some p⟩)) v = some (.tuple #[], ⟨hset s.heap i ⟨cs.set k v, e, g, t⟩, s.next, s.prot⟩) := by
  have e1 : Nat.beq 1 1 = true := rfl
  have e2 : Nat.ble s.prot i = true := by rw [Nat.ble_eq]; exact h0
  simp only [storeA, cells_one hv, astore, List.length_singleton, e1, e2, if_true]
  simp [hh, hv, lput_one v cs k hk]
theorem storeA_new (s : St) (i k p : Nat) (v : Value) (hv : oneCell v = true) (h0 : s.prot ≤ i) : storeA s 1 (.pointer (some ⟨i, k, some p⟩)) v = storeB (hget s.heap i) s i k v := by
  have e1 : Nat.beq 1 1 = true := rfl
  have e2 : Nat.ble s.prot i = true := by rw [Nat.ble_eq]; exact h0
  simp only [storeA, cells_one hv, astore, List.length_singleton, e1, e2, if_true]
  cases hh : hget s.heap i with
  | none => simp [storeB]
  | some b =>
    by_cases hk : k < b.cells.length
    · simp [storeB, hv, lput_one v b.cells k hk, h0, hk]
    · have : lput b.cells k [v] = none := by
        have key : ∀ (cs : List Value) (k : Nat), ¬ k < cs.length → lput cs k [v] = none := by
          intro cs
          induction cs with
          | nil => intro k _; rfl
          | cons c cs ih =>
            intro k hk
            cases k with
            | zero => simp at hk
            | succ k => simp [lput, ih k (by simpa using hk)]
        exact key _ _ hk
      simp [storeB, hv, this, hk]
theorem storeB_some (cs : List Value) (e g t) (s : St) (i k : Nat) (v : Value) (h0 : s.prot ≤ i) (hv : oneCell v = true) (hk : k < cs.length) :
    storeB (some ⟨cs, e, g, t⟩) s i k v = some (.tuple #[], ⟨hset s.heap i ⟨cs.set k v, e, g, t⟩, s.next, s.prot⟩) := by
  simp [storeB, h0, hv, hk]
theorem one_int (k : IntKind) (z : Int) : oneCell (.int k z) = true := rfl
theorem one_bool (b : Bool) : oneCell (.bool b) = true := rfl
theorem one_string (b : ByteArray) : oneCell (.string b) = true := rfl
theorem one_slice (a n c) : oneCell (.slice a n c) = true := rfl
theorem one_pointer (a) : oneCell (.pointer a) = true := rfl
theorem hset_hset (h : Heap) (i : Nat) (a b : Blk) : hset (hset h i a) i b = hset h i b := by
  induction h with
  | nil => rfl
  | cons p r ih =>
    obtain ⟨k, u⟩ := p
    simp only [hset]
    by_cases hk : i = k
    · rw [if_pos (nbeq.2 hk), if_pos (nbeq.2 hk)]; simp [hset, hk]
    · rw [if_neg (by rw [nbeq]; exact hk), if_neg (by rw [nbeq]; exact hk)]
      simp only [hset]
      rw [if_neg (by rw [nbeq]; exact hk), ih]
def loadB (o : Option Blk) (k : Nat) : Option Value := match o with | some b => lget b.cells k | none => none
theorem loadO_new (old : Nat → Nat → Option Value) (h : Heap) (i k p : Nat) : loadO old h (.pointer (some ⟨i, k, some p⟩)) = loadB (hget h i) k := by
  simp only [loadO, aloadO, loadB]
  cases hget h i <;> rfl
theorem loadB_some (b : Blk) (k : Nat) : loadB (some b) k = lget b.cells k := rfl
theorem lget_map {α : Type} [Inhabited α] (f : α → Value) (l : List α) (k : Nat) (hk : k < l.length) : lget (l.map f) k = some (f l[k]!) := by
  rw [lget_eq, List.getElem?_map, List.getElem?_eq_getElem hk, getElem!_pos l k hk]; rfl

/-! ### slices that grow -/
def delO (h : Heap) : Value → Heap
  | .slice (some ⟨i, _, some _⟩) _ c => if c < big then h else hdel h i
  | _ => h
/-- a slice that an append may move: nil, an empty literal, or one that an append has made -/
structure Own (lo : Nat) (s : St) (t : TypeId) (e : Nat) (v : Value) (n : Nat) (cs : List Value) : Prop where
  is : (v = .slice none 0 0 ∧ n = 0 ∧ cs = []) ∨ ∃ i, lo ≤ i ∧ i < s.next ∧ s.prot ≤ i ∧
    ((v = .slice (some ⟨i, 0, some 0⟩) 0 0 ∧ n = 0 ∧ cs = [] ∧ ∃ b, hget s.heap i = some b) ∨
     (v = .slice (some ⟨i, 0, some 0⟩) n (big + n) ∧ cs.length = n * e ∧ hget s.heap i = some ⟨cs, e, true, t⟩))
section
variable {lo : Nat} {s : St} {t : TypeId} {e : Nat} {v : Value} {n : Nat} {cs : List Value}
theorem Own.nil : Own lo s t e (.slice none 0 0) 0 [] := ⟨Or.inl ⟨rfl, rfl, rfl⟩⟩
theorem Own.mk' {i : Nat} (h1 : lo ≤ i) (h2 : i < s.next) (h3 : s.prot ≤ i) (h4 : cs.length = n * e) (h5 : hget s.heap i = some ⟨cs, e, true, t⟩) : Own lo s t e (.slice (some ⟨i, 0, some 0⟩) n (big + n)) n cs :=
  ⟨Or.inr ⟨i, h1, h2, h3, Or.inr ⟨rfl, h4, h5⟩⟩⟩
theorem Own.bid (o : Own lo s t e v n cs) : bidN v ≤ s.next := by
  rcases o.is with ⟨rfl, _⟩ | ⟨i, _, h, _, ⟨rfl, _⟩ | ⟨rfl, _⟩⟩
  · simp [bidN, bidA]
  · simp [bidN, bidA]; omega
  · simp [bidN, bidA]; omega
theorem Own.bid2 (o : Own lo s t e v n cs) : bidN v = 0 ∨ lo < bidN v := by
  rcases o.is with ⟨rfl, _⟩ | ⟨i, h1, h, _, ⟨rfl, _⟩ | ⟨rfl, _⟩⟩
  · exact Or.inl rfl
  · right; simp [bidN, bidA]; omega
  · right; simp [bidN, bidA]; omega
theorem Own.to (o : Own lo s t e v n cs) {s' : St} (hn : s.next ≤ s'.next) (hp : s'.prot = s.prot) (hh : ∀ i, bidN v = i + 1 → hget s'.heap i = hget s.heap i) : Own lo s' t e v n cs := by
  refine ⟨?_⟩
  rcases o.is with h | ⟨i, h1, h2, h3, ⟨rfl, h4, h5, h6⟩ | ⟨rfl, h4, h5⟩⟩
  · exact Or.inl h
  · exact Or.inr ⟨i, h1, by omega, by omega, Or.inl ⟨rfl, h4, h5, by rw [hh i rfl]; exact h6⟩⟩
  · exact Or.inr ⟨i, h1, by omega, by omega, Or.inr ⟨rfl, h4, by rw [hh i rfl]; exact h5⟩⟩
theorem Own.push (o : Own lo s t e v n cs) (bs : List Blk) {s' : St} (hs : s' = ⟨hpush s.heap s.next bs, s.next + bs.length, s.prot⟩) : Own lo s' t e v n cs := by
  subst hs
  exact o.to (by simp) rfl fun i hi => hget_push_lt _ _ _ _ (by have := o.bid; omega)
theorem Own.app {E : Env} (o : Own lo s t e v n cs) {y : Value} {m b : Nat} {new : List Value} (hy : lenA y = some m) (hm : 1 ≤ m) (hs : srcCells E s.heap e m y = some new) (h1 : new.all oneCell = true)
    (hr : n + m ≤ room) (hrb : (n + m) * b ≤ room) :
    appX E s t e b v y = some (.slice (some ⟨s.next, 0, some 0⟩) (n + m) (big + (n + m)), ⟨hpush (delO s.heap v) s.next [⟨cs ++ new, e, true, t⟩], s.next + 1, s.prot⟩) := by
  have hm0 : Nat.beq m 0 = false := by rw [Bool.eq_false_iff]; exact fun h => by have := nbeq.1 h; omega
  have hbig : room < big := by decide
  rcases o.is with ⟨rfl, rfl, rfl⟩ | ⟨i, g1, g2, g3, ⟨rfl, rfl, rfl, bl, g6⟩ | ⟨rfl, g4, g5⟩⟩
  · have e1 : (Nat.ble (0 + m) room && Nat.ble ((0 + m) * b) room && Nat.blt 0 big && Nat.blt 0 (0 + m)) = true := by simp only [Bool.and_eq_true, Nat.ble_eq, Nat.blt_eq]; omega
    have e2 : srcCells E s.heap e 0 (.slice none 0 0) = some [] := rfl
    simp only [appX, appP, hy, Option.bind_some, hm0, e1, hs, e2, Option.map_some, delO]
    rfl
  · have e1 : (Nat.ble (0 + m) room && Nat.ble ((0 + m) * b) room && Nat.blt 0 big && Nat.blt 0 (0 + m)) = true := by simp only [Bool.and_eq_true, Nat.ble_eq, Nat.blt_eq]; omega
    have e2 : srcCells E s.heap e 0 (.slice (some ⟨i, 0, some 0⟩) 0 0) = some [] := by simp [srcCells, aloadN, g6, ltake]
    simp only [appX, appP, hy, Option.bind_some, hm0, e1, hs, e2, Option.map_some, delO]
    rfl
  · have e1 : (Nat.ble (n + m) room && Nat.ble ((n + m) * b) room && Nat.blt (big + n) big && Nat.blt (big + n) (n + m)) = false := by
      have : Nat.blt (big + n) big = false := by rw [Bool.eq_false_iff]; intro h; rw [Nat.blt_eq] at h; omega
      simp [this]
    have e2 : (Nat.ble (n + m) room && Nat.ble ((n + m) * b) room) = true := by simp only [Bool.and_eq_true, Nat.ble_eq]; omega
    have e3 : Nat.blt (big + n) big = false := by rw [Bool.eq_false_iff]; intro h; rw [Nat.blt_eq] at h; omega
    have e4 : Nat.ble s.prot i = true := by rw [Nat.ble_eq]; exact g3
    have e5 : (true && Nat.beq t t && Nat.beq e e && Nat.beq (0 + n * e) cs.length && Nat.beq (big + n) (big + n)) = true := by simp [g4]
    have e6 : ¬ big + n < big := by omega
    have e7 : aloadN E s.heap ⟨i, 0, some 0⟩ 0 = some [] := by simp [aloadN, g5, ltake]
    simp only [appX, appP, appA, hy, Option.bind_some, hm0, e2, e3, e4, hs, h1, g5, e5, if_true, Bool.false_eq_true, if_false, delO, List.drop_zero, e6]
    simp only [St.push, List.length_singleton, Bool.true_and, Bool.false_and, Bool.false_eq_true, if_false]
theorem Own.app0 {E : Env} (o : Own lo s t e v n cs) {y : Value} {b : Nat} (hy : lenA y = some 0) : appX E s t e b v y = some (v, s) := by
  have hb0 : Nat.beq 0 0 = true := rfl
  rcases o.is with ⟨rfl, rfl, rfl⟩ | ⟨i, g1, g2, g3, ⟨rfl, rfl, rfl, bl, g6⟩ | ⟨rfl, g4, g5⟩⟩
  · simp only [appX, appP, hy, Option.bind_some, hb0, if_true]; rfl
  · simp only [appX, appP, hy, Option.bind_some, hb0, if_true]; rfl
  · have : Nat.ble n (knownCap (big + n)) = true := by
      rw [Nat.ble_eq]; unfold knownCap
      rw [if_neg (by rw [Nat.blt_eq]; omega)]; omega
    simp only [appX, appP, hy, Option.bind_some, hb0, if_true, this]; rfl
/-- an append of one element, as 'append(s, x)' is written -/
theorem Own.app1 {E : Env} (o : Own lo s t 1 v n cs) {b j : Nat} {c : Value} {bl : Blk} (hs : hget s.heap j = some bl) (hc : bl.cells = [c]) (h1 : oneCell c = true) (hr : n + 1 ≤ room) (hrb : (n + 1) * b ≤ room) :
    appX E s t 1 b v (.slice (some ⟨j, 0, some 0⟩) 1 1) = some (.slice (some ⟨s.next, 0, some 0⟩) (n + 1) (big + (n + 1)), ⟨hpush (delO s.heap v) s.next [⟨cs ++ [c], 1, true, t⟩], s.next + 1, s.prot⟩) :=
  o.app rfl (Nat.le_refl _) (by simp [srcCells, aloadN, hs, hc, ltake]) (by simp [h1]) hr hrb
theorem hget_delO (h : Heap) (v : Value) (j : Nat) (hj : ¬ bidN v = j + 1) : hget (delO h v) j = hget h j := by
  unfold delO
  split
  · rename_i i o p n c
    split
    · rfl
    · exact hget_del_ne _ _ _ (by simp [bidN, bidA] at hj; omega)
  · rfl
theorem HX.delO {m : Nat} {h0 h : Heap} (hx : HX m h0 h) {v : Value} (hv : bidN v = 0 ∨ m < bidN v) : HX m h0 (delO h v) := fun j hj => by
  rw [hget_delO _ _ _ (by omega), hx j hj]
/-- behind an append -/
theorem Own.grown {h : Heap} {nx p : Nat} (h4 : cs.length = n * e) (hlo : lo ≤ nx) (hp : p ≤ nx) : Own lo ⟨hpush h nx [⟨cs, e, true, t⟩], nx + 1, p⟩ t e (.slice (some ⟨nx, 0, some 0⟩) n (big + n)) n cs :=
  Own.mk' hlo (Nat.lt_succ_self _) hp h4 (hget_push_one _ _ _ _ rfl)
theorem Own.len (o : Own lo s t e v n cs) : lenX false v = some (.int .i64 n) := by
  rcases o.is with ⟨rfl, rfl, rfl⟩ | ⟨i, g1, g2, g3, ⟨rfl, rfl, rfl, bl, g6⟩ | ⟨rfl, g4, g5⟩⟩ <;> rfl
theorem Own.rd {α : Type} {f : α → Value} {l : List α} {old : Nat → Nat → Option Value} (o : Own lo s t 1 v l.length (l.map f)) : Rd old s.heap f v l := by
  rcases o.is with ⟨rfl, h1, h2⟩ | ⟨i, g1, g2, g3, ⟨rfl, h1, h2, bl, g6⟩ | ⟨rfl, g4, g5⟩⟩
  · have : l = [] := List.length_eq_zero_iff.1 h1
    subst this; exact Rd.nil
  · have : l = [] := List.length_eq_zero_iff.1 h1
    subst this
    exact ⟨Or.inl ⟨_, 0, rfl, by simp, Or.inr ⟨_, rfl, fun j hj => by simp [bidA] at hj; subst hj; exact ⟨bl, g6⟩, fun k hk => by simp at hk⟩⟩⟩
  · exact Rd.newb g5 rfl rfl (by unfold knownCap; rw [if_neg (by rw [Nat.blt_eq]; omega)]; omega)
end

/-! ### what a function returns that appended to a slice of its own -/
def newV (nx n : Nat) : Value := if n = 0 then .slice none 0 0 else .slice (some ⟨nx, 0, some 0⟩) n (big + n)
def newB (t : TypeId) (e n : Nat) (cs : List Value) : List Blk := if n = 0 then [] else [⟨cs, e, true, t⟩]
theorem newB_le (t : TypeId) (e n : Nat) (cs : List Value) : (newB t e n cs).length ≤ 1 := by unfold newB; split <;> simp
theorem newV_bid (nx n : Nat) (t : TypeId) (e : Nat) (cs : List Value) : bidN (newV nx n) ≤ nx + (newB t e n cs).length := by
  unfold newV newB; split <;> simp [bidN, bidA]
theorem newV_bid2 (nx n : Nat) : bidN (newV nx n) = 0 ∨ bidN (newV nx n) = nx + 1 := by
  unfold newV; split <;> simp [bidN, bidA]
theorem Rd.newV {α : Type} {old : Nat → Nat → Option Value} {f : α → Value} (h : Heap) (nx : Nat) (t : TypeId) (l : List α) : Rd old (hpush h nx (newB t 1 l.length (l.map f))) f (newV nx l.length) l := by
  unfold Itp.newV newB
  by_cases h0 : l.length = 0
  · have : l = [] := List.length_eq_zero_iff.1 h0
    subst this; exact Rd.nil
  · rw [if_neg h0, if_neg h0]
    exact Rd.newb (hget_push_one _ _ _ _ rfl) rfl rfl (by unfold knownCap; rw [if_neg (by rw [Nat.blt_eq]; omega)]; omega)
theorem Own.gc {n0 : Nat} {s : St} {t : TypeId} {e : Nat} {v : Value} {n : Nat} {cs : List Value} (o : Own n0 s t e v n cs) (hn : n = 0 → v = .slice none 0 0) (hc : idsL n0 cs = []) :
    gc n0 s.heap v = some (newV n0 n, newB t e n cs) := by
  unfold newV newB
  by_cases h0 : n = 0
  · rw [if_pos h0, if_pos h0, hn h0]; rfl
  · rw [if_neg h0, if_neg h0]
    rcases o.is with ⟨rfl, h1, h2⟩ | ⟨i, g1, g2, g3, ⟨rfl, h1, h2, bl, g6⟩ | ⟨rfl, g4, g5⟩⟩
    · exact (h0 h1).elim
    · exact (h0 h1).elim
    · exact gc_slice g1 g5 hc
theorem Own.gc_int {n0 : Nat} {s : St} {t : TypeId} {e : Nat} {v : Value} {n : Nat} {cs : List Value} (o : Own n0 s t e v n cs) (hn : n = 0 → v = .slice none 0 0) (hc : idsL n0 cs = []) (k : IntKind) (z : Int) :
    Itp.gc n0 s.heap (.tuple [v, .int k z].toArray) = some (.tuple [newV n0 n, .int k z].toArray, newB t e n cs) := by
  unfold newV newB
  by_cases h0 : n = 0
  · rw [if_pos h0, if_pos h0, hn h0]; rfl
  · rw [if_neg h0, if_neg h0]
    rcases o.is with ⟨rfl, h1, h2⟩ | ⟨i, g1, g2, g3, ⟨rfl, h1, h2, bl, g6⟩ | ⟨rfl, g4, g5⟩⟩
    · exact (h0 h1).elim
    · exact (h0 h1).elim
    · exact gc_slice_int g1 g5 hc
/-- such a result, handed on -/
theorem gc_newV {n0 nx n : Nat} {h : Heap} {t : TypeId} {e : Nat} {cs : List Value} (hn : n0 ≤ nx) (hc : idsL n0 cs = []) (k : IntKind) (z : Int) :
    gc n0 (hpush h nx (newB t e n cs)) (.tuple [newV nx n, .int k z].toArray) = some (.tuple [newV n0 n, .int k z].toArray, newB t e n cs) := by
  unfold newV newB
  by_cases h0 : n = 0
  · rw [if_pos h0, if_pos h0, if_pos h0]; rfl
  · rw [if_neg h0, if_neg h0, if_neg h0]
    exact gc_slice_int hn (hget_push_one _ _ _ _ rfl) hc

/-! ### rows that are written out -/
theorem Rd.one {α : Type} {old : Nat → Nat → Option Value} {h : Heap} {f : α → Value} {v : Value} {l : List α} (r : Rd old h f v l) : oneCell v = true := by
  rcases r.is with ⟨a, c, rfl, _⟩ | ⟨rfl, k, b, n, rfl⟩ <;> rfl
theorem row0 (nx : Nat) (t : TypeId) (e : Nat) (z : List Value) : mkRowA nx t e 0 z [] = some (.slice (some ⟨nx, 0, some 0⟩) 0 0, [⟨[], e, false, t⟩]) := rfl
theorem row1 (nx : Nat) (t : TypeId) (z v : Value) (hv : oneCell v = true) : mkRowA nx t 1 1 [z] [(0, 1, v)] = some (.slice (some ⟨nx, 0, some 0⟩) 1 1, [⟨[v], 1, false, t⟩]) := by
  have e : (Nat.beq 1 1 && Nat.ble (0 + 1) 1) = true := rfl
  simp [mkRowA, fillA, rep, cells_one hv, lput]
theorem row2 (nx : Nat) (t : TypeId) (z u v : Value) (hu : oneCell u = true) (hv : oneCell v = true) : mkRowA nx t 1 2 [z] [(0, 1, u), (1, 1, v)] = some (.slice (some ⟨nx, 0, some 0⟩) 2 2, [⟨[u, v], 1, false, t⟩]) := by
  simp [mkRowA, fillA, rep, cells_one hu, cells_one hv, lput]
theorem row3 (nx : Nat) (t : TypeId) (z u v x : Value) (hu : oneCell u = true) (hv : oneCell v = true) (hx : oneCell x = true) : mkRowA nx t 1 3 [z] [(0, 1, u), (1, 1, v), (2, 1, x)] = some (.slice (some ⟨nx, 0, some 0⟩) 3 3, [⟨[u, v, x], 1, false, t⟩]) := by
  simp [mkRowA, fillA, rep, cells_one hu, cells_one hv, cells_one hx, lput]
theorem Own.appRow {lo h nx p t v n cs} (o : Own lo ⟨h, nx, p⟩ t 1 v n cs) {E : Env} {b : Nat} {c : Value} {t' : TypeId} {g : Bool} (h1 : oneCell c = true) (hr : n + 1 ≤ 1099511627776) (hrb : (n + 1) * b ≤ 1099511627776) :
    appX E ⟨hpush h nx [⟨[c], 1, g, t'⟩], nx + 1, p⟩ t 1 b v (.slice (some ⟨nx, 0, some 0⟩) 1 1) =
      some (.slice (some ⟨nx + 1, 0, some 0⟩) (n + 1) (big + (n + 1)), ⟨hpush (delO (hpush h nx [⟨[c], 1, g, t'⟩]) v) (nx + 1) [⟨cs ++ [c], 1, true, t⟩], nx + 1 + 1, p⟩) :=
  (o.push [⟨[c], 1, g, t'⟩] rfl).app1 (hget_push_one _ _ _ _ rfl) rfl h1 hr hrb

/-! ### rows of numbers in place -/
theorem expand_one (n : Nat) (v : Value) : expand [(n, v)] = List.replicate n v := by simp [expand]
theorem rep_one (v : Value) : ∀ n, rep [v] n = List.replicate n v
  | 0 => rfl
  | n + 1 => by simp [rep, rep_one v n, List.replicate_succ]
theorem replicate_int (n : Nat) (z : Int) : List.replicate n (Value.int .i64 z) = (List.replicate n z).map (Value.int .i64) := by simp
theorem replicate_bool (n : Nat) (b : Bool) : List.replicate n (Value.bool b) = (List.replicate n b).map Value.bool := by simp
theorem mkSlice_one (nx : Nat) (t : TypeId) (b : Nat) (v : Value) (k j : IntKind) (l c : Int) (h0 : 0 ≤ l) (h1 : l ≤ c) (h2 : c * b ≤ 1099511627776) (h3 : c ≤ 1099511627776) :
    mkSliceA nx t 1 b [v] (.int k l) (.int j c) = some (.slice (some ⟨nx, 0, some 0⟩) l.toNat c.toNat, [⟨List.replicate c.toNat v, 1, false, t⟩]) := by
  have : (0 ≤ l ∧ l ≤ c ∧ c * b ≤ room ∧ c ≤ room) := ⟨h0, h1, by unfold room; omega, by unfold room; omega⟩
  simp only [mkSliceA, if_pos this, rep_one]
theorem idxS_new (b o : Nat) (sp : Option Nat) (n c : Nat) (k : IntKind) (z : Int) (h0 : 0 ≤ z) (h1 : z < n) : idxSA 1 (.slice (some ⟨b, o, sp⟩) n c) (.int k z) = some (.pointer (some ⟨b, o + z.toNat, sp⟩)) := by
  simp [idxSA, idxNat_in k z n h0 h1, aadd]
theorem idxA_new (b o : Nat) (sp : Option Nat) (n : Nat) (k : IntKind) (z : Int) (h0 : 0 ≤ z) (h1 : z < n) : idxAA n 1 (.pointer (some ⟨b, o, sp⟩)) (.int k z) = some (.pointer (some ⟨b, o + z.toNat, sp⟩)) := by
  simp [idxAA, idxNat_in k z n h0 h1, aadd]
theorem len_slice (a : Option Addr) (n c : Nat) : lenX false (.slice a n c) = some (.int .i64 n) := rfl
theorem hget_set_self (h : Heap) (i : Nat) (b : Blk) : hget (hset h i b) i = (hget h i).map fun _ => b := by
  induction h with
  | nil => rfl
  | cons p r ih =>
    obtain ⟨k, u⟩ := p
    simp only [hset]
    by_cases hk : i = k
    · rw [if_pos (nbeq.2 hk)]; simp [hget, hk]
    · rw [if_neg (by rw [nbeq]; exact hk)]
      simp only [hget]
      rw [if_neg (by rw [nbeq]; exact hk), if_neg (by rw [nbeq]; exact hk), ih]
theorem set_map {α : Type} (f : α → Value) (l : List α) (i : Nat) (x : α) : (l.map f).set i (f x) = (l.set i x).map f := (List.map_set ..).symm
theorem set_int (l : List Int) (i : Nat) (x : Int) : (l.map (Value.int .i64)).set i (.int .i64 x) = (l.set i x).map (Value.int .i64) := (List.map_set ..).symm
theorem set_bool (l : List Bool) (i : Nat) (x : Bool) : (l.map Value.bool).set i (.bool x) = (l.set i x).map Value.bool := (List.map_set ..).symm
theorem get_set_eq {α : Type} [Inhabited α] (l : List α) (i : Nat) (x : α) (h : i < l.length) : (l.set i x)[i]! = x := by
  rw [getElem!_pos (l.set i x) i (by simpa using h)]; simp
theorem get_set_ne {α : Type} [Inhabited α] (l : List α) (i j : Nat) (x : α) (h : ¬ i = j) : (l.set i x)[j]! = l[j]! := by
  simp [List.getElem!_eq_getElem?_getD, h]
theorem list_ext {α : Type} [Inhabited α] {l m : List α} (h : l.length = m.length) (hj : ∀ j, j < l.length → l[j]! = m[j]!) : l = m := by
  apply List.ext_getElem h
  intro j h1 h2
  have := hj j h1
  rwa [getElem!_pos l j h1, getElem!_pos m j h2] at this
theorem get_app_l {α : Type} [Inhabited α] (l m : List α) (i : Nat) (h : i < l.length) : (l ++ m)[i]! = l[i]! := by
  rw [getElem!_pos (l ++ m) i (by simp; omega), getElem!_pos l i h, List.getElem_append_left]
theorem get_app_r {α : Type} [Inhabited α] (l m : List α) (i : Nat) (h : l.length ≤ i) (h2 : i < l.length + m.length) : (l ++ m)[i]! = m[i - l.length]! := by
  rw [getElem!_pos (l ++ m) i (by simp; omega), getElem!_pos m (i - l.length) (by omega), List.getElem_append_right h]
theorem get_rep {α : Type} [Inhabited α] (n i : Nat) (x : α) (h : i < n) : (List.replicate n x)[i]! = x := by
  rw [getElem!_pos (List.replicate n x) i (by simpa using h)]; simp
theorem Rd.newS {α : Type} {old : Nat → Nat → Option Value} {h : Heap} {f : α → Value} {i n e : Nat} {g : Bool} {t : TypeId} {l : List α} (hg : hget h i = some ⟨l.map f, e, g, t⟩) (hn : n = l.length) (hb : n < 4611686018427387904) :
    Rd old h f (.slice (some ⟨i, 0, some 0⟩) n n) l := Rd.newb hg rfl hn (by unfold knownCap; rw [if_pos (by rw [Nat.blt_eq]; exact hb)]; exact Nat.le_refl _)

/-! ### a copy, as 'append([]T{}, xs...)' is written -/
def catV (nx n : Nat) : Value := if n = 0 then .slice (some ⟨nx, 0, some 0⟩) 0 0 else .slice (some ⟨nx + 1, 0, some 0⟩) n (big + n)
theorem catV_bid (nx n : Nat) : bidN (catV nx n) = nx + 1 ∨ bidN (catV nx n) = nx + 2 := by
  unfold catV; split <;> simp [bidN, bidA]
theorem catV_le (nx n : Nat) (t : TypeId) (e : Nat) (cs : List Value) : bidN (catV nx n) ≤ nx + 1 + (newB t e n cs).length := by
  unfold catV newB; split <;> simp [bidN, bidA]
theorem app_cat {α : Type} {E : Env} {h h0 : Heap} {nx p : Nat} {f : α → Value} {v : Value} {l : List α} {t t' : TypeId} {b e : Nat} {g : Bool} (hv : Rd E.old h0 f v l) (hx : bidN v ≤ nx ∧ HX nx h0 h) (hp : p ≤ nx) (hf : ∀ x, oneCell (f x) = true) (hr : l.length ≤ 1099511627776) (hrb : l.length * b ≤ 1099511627776) :
    appX E ⟨hpush h nx [⟨[], e, g, t'⟩], nx + 1, p⟩ t 1 b (.slice (some ⟨nx, 0, some 0⟩) 0 0) v =
      some (catV nx l.length, ⟨hpush (hpush h nx [⟨[], e, g, t'⟩]) (nx + 1) (newB t 1 l.length (l.map f)), nx + 1 + (newB t 1 l.length (l.map f)).length, p⟩) := by
  have hv' : Rd E.old (hpush h nx [⟨[], e, g, t'⟩]) f v l := (hv.hx hx.2 hx.1).push _ hx.1
  have ho : Own p ⟨hpush h nx [⟨[], e, g, t'⟩], nx + 1, p⟩ t 1 (.slice (some ⟨nx, 0, some 0⟩) 0 0) 0 [] := ⟨Or.inr ⟨nx, hp, Nat.lt_succ_self _, hp, Or.inl ⟨rfl, rfl, rfl, _, hget_push_one _ _ _ _ rfl⟩⟩⟩
  by_cases h0 : l.length = 0
  · rw [ho.app0 (by rw [hv'.lenA, h0])]
    simp [catV, newB, h0, hpush]
  · rw [ho.app (m := l.length) (new := l.map f) hv'.lenA (by omega) (by
      have := hv'.src l.length (Nat.le_refl _)
      rw [List.take_length] at this
      rw [← this]
      exact srcCells_old E ⟨fun _ _ _ => none, fun _ _ _ => none, E.old, 0⟩ rfl _ _ _ _) (by simp [hf]) (by unfold room; omega) (by rw [Nat.zero_add]; unfold room; exact hrb)]
    simp [catV, newB, h0, delO, big]
theorem Rd.cat {α : Type} {old : Nat → Nat → Option Value} {h : Heap} {nx : Nat} {f : α → Value} {l : List α} {t t' : TypeId} {e : Nat} {g : Bool} :
    Rd old (hpush (hpush h nx [⟨[], e, g, t'⟩]) (nx + 1) (newB t 1 l.length (l.map f))) f (catV nx l.length) l := by
  unfold catV newB
  by_cases h0 : l.length = 0
  · have : l = [] := List.length_eq_zero_iff.1 h0
    subst this
    simp only [List.length_nil, if_true, hpush_nil]
    exact Rd.newb (hget_push_one _ _ _ _ rfl) rfl rfl (by simp)
  · rw [if_neg h0, if_neg h0]
    exact Rd.newb (hget_push_one _ _ _ _ rfl) rfl rfl (by unfold knownCap; rw [if_neg (by rw [Nat.blt_eq]; omega)]; omega)
theorem app_catO {α : Type} {old : Nat → Nat → Option Value} {h : Heap} {f : α → Value} {v : Value} {l : List α} (hv : Rd old h f v l) (hf : ∀ x, oneCell (f x) = true) {E : Env} {nx p : Nat} {t t' : TypeId} {b e : Nat} {g : Bool} (hE : E.old = old) (hx : bidN v ≤ nx) (hp : p ≤ nx)
    (hr : l.length ≤ 1099511627776) (hrb : l.length * b ≤ 1099511627776) :
    appX E ⟨hpush h nx [⟨[], e, g, t'⟩], nx + 1, p⟩ t 1 b (.slice (some ⟨nx, 0, some 0⟩) 0 0) v =
      some (catV nx l.length, ⟨hpush (hpush h nx [⟨[], e, g, t'⟩]) (nx + 1) (newB t 1 l.length (l.map f)), nx + 1 + (newB t 1 l.length (l.map f)).length, p⟩) := by
  subst hE
  exact app_cat hv ⟨hx, HX.refl _ _⟩ hp hf hr hrb
theorem Rd.newV' {α : Type} {old : Nat → Nat → Option Value} {f : α → Value} {h : Heap} {nx : Nat} {t : TypeId} {l : List α} {n : Nat} (hn : n = l.length) : Rd old (hpush h nx (newB t 1 n (l.map f))) f (Itp.newV nx n) l := by
  subst hn; exact Rd.newV h nx t l
end Go.Itp
/-
  Values without addresses: slices that nobody writes any more by what they hold, a function's own objects by small numbers. How they stand to the interpreter's memory.
-/
set_option linter.unusedVariables false
namespace Go.Itp

/-- what a finished slice's cell holds; of an empty slice: 0 it is not nil, 2 it is nil, 3 either, 1 either or without a place -/
inductive D where
  | sc (x : Value)
  | sl (s n : Nat) (l : List D)
/-- what a slot holds -/
inductive V where
  | sc (x : Value)
  | sl (s n : Nat) (l : List D)
  | slk (s n c : Nat) (l : List D)
  | dp (l : List D) (o : Nat)
  | ref (o k n c : Nat)
  | gr (s o n : Nat)
  | ptr (o k : Nat)
  | agg (l : List V)
  | tup (l : List V)
  | fn (f : FuncId) (a b : List V)
  | ifc (t : TypeId) (v : V)
  | dead
inductive Obj where
  | box (t : TypeId) (e : Nat) (l : List V)
  | row (t : TypeId) (e : Nat) (g z : Bool) (l : List D)
  | gro (t : TypeId) (e : Nat) (z : Bool) (l : List D)
abbrev VFr := List (Nat × V)
abbrev VHp := List (Nat × Obj)
/-- its objects; the next number; those below 'ro' are only read -/
structure VSt where
  own : VHp
  next : Nat
  ro : Nat

def scOK : Value → Bool
  | .bool _ => true
  | .int _ _ => true
  | .string _ => true
  | .nilFunc => true
  | .nilIface => true
  | .pointer none => true
  | .pointer (some a) => a.spot.isNone
  | .slice none n c => Nat.beq n 0 && Nat.beq c 0
  | .map none => true
  | .func (.func _) ⟨a⟩ ⟨b⟩ => a.isEmpty && b.isEmpty
  | .iface _ v => scOK v
  | _ => false
theorem scOK_ids (n0 : Nat) : ∀ (v : Value), scOK v = true → ids n0 v = []
  | .pointer none, _ => rfl
  | .pointer (some ⟨b, o, none⟩), _ => rfl
  | .pointer (some ⟨b, o, some k⟩), h => by simp [scOK] at h
  | .slice none n c, _ => rfl
  | .slice (some a) n c, h => by simp [scOK] at h
  | .func f ⟨a⟩ ⟨b⟩, h => by
    cases f with
    | func f =>
      simp [scOK] at h
      obtain ⟨rfl, rfl⟩ := h
      simp [ids, idsL]
    | _ => simp [scOK] at h
  | .iface t v, h => by simp only [scOK] at h; simp only [ids]; exact scOK_ids n0 v h
  | .agg _, h => by simp [scOK] at h
  | .tuple _, h => by simp [scOK] at h
  | .bool _, _ => rfl
  | .int _ _, _ => rfl
  | .float _ _, _ => rfl
  | .complex _ _ _, h => by simp [scOK] at h
  | .string _, _ => rfl
  | .map _, _ => rfl
  | .chan _, _ => rfl
  | .nilFunc, _ => rfl
  | .nilIface, _ => rfl
theorem scOK_one (v : Value) (h : scOK v = true) : oneCell v = true := by
  cases v <;> first | rfl | (simp [scOK] at h)

/-! ### how the values stand to the interpreter's -/
structure VW where
  ld : Addr → Option Value
  F : Nat → Prop
  μ : Nat → Option Nat
  nx : Nat
def VW.inF (w : VW) (a : Addr) : Prop := match a.spot with | none => True | some _ => w.F a.block
def capOK (n c : Nat) : Prop := n ≤ knownCap c
mutual
def DRep (w : VW) : D → Value → Prop
  | .sc x, v => v = x ∧ scOK x = true
  | .sl s n l, v => (∃ a c, v = .slice (some a) n c ∧ w.inF a ∧ capOK n c ∧ DRepA w l a ∧ (s = 2 → n ≠ 0)) ∨ (s ≠ 0 ∧ n = 0 ∧ l = [] ∧ (v = .slice none 0 0 ∨ s = 1 ∧ ∃ k b e, v = .complex k b e))
def DRepA (w : VW) : List D → Addr → Prop
  | [], _ => True
  | d :: r, a => (∃ v, w.ld a = some v ∧ DRep w d v) ∧ DRepA w r (aadd a 1)
end
def DRepL (w : VW) : List D → List Value → Prop
  | [], vs => vs = []
  | d :: r, vs => ∃ v vs', vs = v :: vs' ∧ DRep w d v ∧ DRepL w r vs'
mutual
def VRep (w : VW) : V → Value → Prop
  | .sc x, v => v = x ∧ scOK x = true
  | .sl s n l, v => DRep w (.sl s n l) v
  | .slk s n c l, v => c < big ∧ n ≤ c ∧ ((∃ a, v = .slice (some a) n c ∧ w.inF a ∧ DRepA w l a) ∨ (s ≠ 0 ∧ n = 0 ∧ c = 0 ∧ l = [] ∧ v = .slice none 0 0))
  | .dp l o, v => ∃ a, v = .pointer (some (aadd a o)) ∧ w.inF a ∧ DRepA w l a
  | .ref o k n c, v => o < w.nx ∧ capOK n c ∧ ∃ b', v = .slice (some ⟨b', k, some 0⟩) n c ∧ ∀ b, w.μ o = some b → b' = b
  | .gr s o n, v => o < w.nx ∧ ((n = 0 ∧ (v = .slice none 0 0 ∨ s ≠ 2 ∧ ∃ a c, v = .slice (some a) 0 c ∧ w.inF a)) ∨ (n ≠ 0 ∧ ∃ b', v = .slice (some ⟨b', 0, some 0⟩) n (big + n) ∧ ∀ b, w.μ o = some b → b' = b))
  | .ptr o k, v => o < w.nx ∧ ∃ b', v = .pointer (some ⟨b', k, some 0⟩) ∧ ∀ b, w.μ o = some b → b' = b
  | .agg l, v => ∃ vs, v = .agg ⟨vs⟩ ∧ VRepL w l vs
  | .tup l, v => ∃ vs, v = .tuple ⟨vs⟩ ∧ VRepL w l vs
  | .fn f a b, v => ∃ as bs, v = .func (.func f) ⟨as⟩ ⟨bs⟩ ∧ VRepL w a as ∧ VRepL w b bs
  | .ifc t u, v => ∃ v', v = .iface t v' ∧ VRep w u v'
  | .dead, _ => True
def VRepL (w : VW) : List V → List Value → Prop
  | [], vs => vs = []
  | d :: r, vs => ∃ v vs', vs = v :: vs' ∧ VRep w d v ∧ VRepL w r vs'
end
/-- what holds in one memory holds in a later one -/
structure VW.le (w w' : VW) : Prop where
  ld : ∀ a, w.inF a → w'.ld a = w.ld a
  F : ∀ b, w.F b → w'.F b
  nx : w.nx ≤ w'.nx
  μ : ∀ o b, o < w.nx → w'.μ o = some b → w.μ o = some b
theorem VW.le.inF {w w' : VW} (h : VW.le w w') {a : Addr} (i : w.inF a) : w'.inF a := by
  unfold VW.inF at i ⊢
  split
  · trivial
  · rename_i hs
    rw [hs] at i
    exact h.F _ i
theorem inF_add {w : VW} {a : Addr} {n : Nat} (i : w.inF a) : w.inF (aadd a n) := i
mutual
theorem DRep.mono {w w' : VW} (h : VW.le w w') : ∀ {d : D} {v : Value}, DRep w d v → DRep w' d v
  | .sc x, v, r => by simp only [DRep] at r ⊢; exact r
  | .sl s n l, v, r => by
    simp only [DRep] at r ⊢
    rcases r with ⟨a, c, e, i, k, r, q⟩ | r
    · exact .inl ⟨a, c, e, h.inF i, k, DRepA.mono h i r, q⟩
    · exact .inr r
theorem DRepA.mono {w w' : VW} (h : VW.le w w') : ∀ {l : List D} {a : Addr}, w.inF a → DRepA w l a → DRepA w' l a
  | [], a, _, _ => by simp only [DRepA]
  | d :: r, a, i, q => by
    simp only [DRepA] at q ⊢
    obtain ⟨⟨v, h1, h2⟩, h3⟩ := q
    exact ⟨⟨v, by rw [h.ld a i]; exact h1, DRep.mono h h2⟩, DRepA.mono h (inF_add i) h3⟩
end
theorem DRepL.mono {w w' : VW} (h : VW.le w w') : ∀ {l : List D} {vs : List Value}, DRepL w l vs → DRepL w' l vs
  | [], vs, r => r
  | d :: r, vs, q => by
    obtain ⟨v, vs', e, h1, h2⟩ := q
    exact ⟨v, vs', e, DRep.mono h h1, DRepL.mono h h2⟩
mutual
theorem VRep.mono {w w' : VW} (h : VW.le w w') : ∀ {d : V} {v : Value}, VRep w d v → VRep w' d v
  | .sc x, v, r => by simp only [VRep] at r ⊢; exact r
  | .sl s n l, v, r => by simp only [VRep] at r ⊢; exact DRep.mono h r
  | .slk s n c l, v, r => by
    simp only [VRep] at r ⊢
    refine ⟨r.1, r.2.1, r.2.2.imp ?_ id⟩
    rintro ⟨a, e, i, r⟩
    exact ⟨a, e, h.inF i, DRepA.mono h i r⟩
  | .dp l o, v, r => by
    simp only [VRep] at r ⊢
    obtain ⟨a, e, i, r⟩ := r
    exact ⟨a, e, h.inF i, DRepA.mono h i r⟩
  | .ref o k n c, v, r => by
    simp only [VRep] at r ⊢
    obtain ⟨h1, h2, b', e, r⟩ := r
    exact ⟨Nat.lt_of_lt_of_le h1 h.nx, h2, b', e, fun b hb => r b (h.μ o b h1 hb)⟩
  | .gr s o n, v, r => by
    simp only [VRep] at r ⊢
    obtain ⟨h1, r⟩ := r
    refine ⟨Nat.lt_of_lt_of_le h1 h.nx, r.imp (And.imp id (Or.imp id (And.imp id ?_))) ?_⟩
    · rintro ⟨a, c, e, i⟩
      exact ⟨a, c, e, h.inF i⟩
    · rintro ⟨h2, b', e, r⟩
      exact ⟨h2, b', e, fun b hb => r b (h.μ o b h1 hb)⟩
  | .ptr o k, v, r => by
    simp only [VRep] at r ⊢
    obtain ⟨h1, b', e, r⟩ := r
    exact ⟨Nat.lt_of_lt_of_le h1 h.nx, b', e, fun b hb => r b (h.μ o b h1 hb)⟩
  | .agg l, v, r => by
    simp only [VRep] at r ⊢
    obtain ⟨vs, e, r⟩ := r
    exact ⟨vs, e, VRepL.mono h r⟩
  | .tup l, v, r => by
    simp only [VRep] at r ⊢
    obtain ⟨vs, e, r⟩ := r
    exact ⟨vs, e, VRepL.mono h r⟩
  | .fn f a b, v, r => by
    simp only [VRep] at r ⊢
    obtain ⟨vs, us, e, r, q⟩ := r
    exact ⟨vs, us, e, VRepL.mono h r, VRepL.mono h q⟩
  | .ifc t u, v, r => by
    simp only [VRep] at r ⊢
    obtain ⟨v', e, r⟩ := r
    exact ⟨v', e, VRep.mono h r⟩
  | .dead, v, _ => by simp only [VRep]
theorem VRepL.mono {w w' : VW} (h : VW.le w w') : ∀ {l : List V} {vs : List Value}, VRepL w l vs → VRepL w' l vs
  | [], vs, r => by simp only [VRepL] at r ⊢; exact r
  | d :: r, vs, q => by
    simp only [VRepL] at q ⊢
    obtain ⟨v, vs', e, h1, h2⟩ := q
    exact ⟨v, vs', e, VRep.mono h h1, VRepL.mono h h2⟩
end

/-! ### lists with numbers -/
def aget {α : Type} : List (Nat × α) → Nat → Option α
  | [], _ => none
  | (j, v) :: r, i => if Nat.beq i j then some v else aget r i
def aput {α : Type} : List (Nat × α) → Nat → α → List (Nat × α)
  | [], i, v => [(i, v)]
  | (j, u) :: r, i, v => if Nat.beq i j then (i, v) :: r else if Nat.blt i j then (i, v) :: (j, u) :: r else (j, u) :: aput r i v
def aputO {α : Type} (fr : List (Nat × α)) (d : Option Nat) (v : α) : List (Nat × α) := match d with | some i => aput fr i v | none => fr
def aset {α : Type} : List (Nat × α) → Nat → α → List (Nat × α)
  | [], _, _ => []
  | (j, u) :: r, i, v => if Nat.beq i j then (j, v) :: r else (j, u) :: aset r i v
def adel {α : Type} (i : Nat) : List (Nat × α) → List (Nat × α)
  | [] => []
  | (j, u) :: r => if Nat.beq i j then adel i r else (j, u) :: adel i r
def akeep {α : Type} (ks : List Nat) : List (Nat × α) → List (Nat × α)
  | [] => []
  | (j, v) :: r => if elemB j ks then (j, v) :: akeep ks r else akeep ks r
theorem aget_cons {α : Type} (j : Nat) (v : α) (r : List (Nat × α)) (i : Nat) : aget ((j, v) :: r) i = if i = j then some v else aget r i := by
  simp only [aget]
  by_cases h : i = j
  · rw [if_pos (nbeq.2 h), if_pos h]
  · rw [if_neg (by rw [nbeq]; exact h), if_neg h]
theorem aget_aput {α : Type} : ∀ (r : List (Nat × α)) (i j : Nat) (v : α), aget (aput r i v) j = if j = i then some v else aget r j
  | [], i, j, v => by simp only [aput]; rw [aget_cons]
  | (k, u) :: r, i, j, v => by
    simp only [aput]
    split
    · rename_i h
      have := nbeq.1 h
      subst this
      rw [aget_cons, aget_cons]
      split <;> rfl
    · rename_i h
      rw [nbeq] at h
      split
      · rw [aget_cons]
      · rw [aget_cons, aget_aput r i j v, aget_cons]
        by_cases hj : j = k
        · subst hj; rw [if_pos rfl, if_neg (fun e => h e.symm), if_pos rfl]
        · rw [if_neg hj, if_neg hj]
theorem aget_aset {α : Type} : ∀ (r : List (Nat × α)) (i j : Nat) (v c : α), aget r i = some c → aget (aset r i v) j = if j = i then some v else aget r j
  | [], i, j, v, c, h => by cases h
  | (k, u) :: r, i, j, v, c, h => by
    rw [aget_cons] at h
    simp only [aset]
    split
    · rename_i hk
      have := nbeq.1 hk
      subst this
      rw [aget_cons, aget_cons]
      split <;> rfl
    · rename_i hk
      rw [nbeq] at hk
      rw [if_neg hk] at h
      rw [aget_cons, aget_aset r i j v c h, aget_cons]
      by_cases hj : j = k
      · subst hj; rw [if_pos rfl, if_neg (fun e => hk e.symm), if_pos rfl]
      · rw [if_neg hj, if_neg hj]
theorem aget_adel {α : Type} : ∀ (r : List (Nat × α)) (i j : Nat), aget (adel i r) j = if j = i then none else aget r j
  | [], i, j => by simp [adel, aget]
  | (k, u) :: r, i, j => by
    simp only [adel]
    split
    · rename_i hk
      have := nbeq.1 hk
      subst this
      rw [aget_adel r i j, aget_cons]
      split <;> rfl
    · rename_i hk
      rw [nbeq] at hk
      rw [aget_cons, aget_adel r i j, aget_cons]
      by_cases hj : j = k
      · subst hj; rw [if_pos rfl, if_neg (fun e => hk e.symm), if_pos rfl]
      · rw [if_neg hj, if_neg hj]
theorem aget_akeep {α : Type} (ks : List Nat) : ∀ (r : List (Nat × α)) (j : Nat) (v : α), aget (akeep ks r) j = some v → aget r j = some v ∧ j ∈ ks
  | [], j, v, h => by cases h
  | (k, u) :: r, j, v, h => by
    simp only [akeep] at h
    split at h
    · rename_i hk
      rw [aget_cons] at h ⊢
      by_cases hj : j = k
      · subst hj; rw [if_pos rfl] at h ⊢; exact ⟨h, (elemB_iff _ _).1 hk⟩
      · rw [if_neg hj] at h ⊢; exact aget_akeep ks r j v h
    · rename_i hk
      have h2 := aget_akeep ks r j v h
      rw [aget_cons]
      by_cases hj : j = k
      · subst hj; exact absurd ((elemB_iff _ _).2 h2.2) hk
      · rw [if_neg hj]; exact h2

/-! ### the memory -/
def ORep (w : VW) : Obj → Blk → Prop
  | .box t e l, b => b.esz = e ∧ b.grow = false ∧ b.ty = t ∧ VRepL w l b.cells
  | .row t e g _ l, b => b.esz = e ∧ b.grow = g ∧ b.ty = t ∧ DRepL w l b.cells
  | .gro t e z l, b => b.esz = e ∧ b.grow = true ∧ b.ty = t ∧ DRepL w l b.cells
theorem ORep.mono {w w' : VW} (h : VW.le w w') : ∀ {o : Obj} {b : Blk}, ORep w o b → ORep w' o b
  | .box t e l, b, r => ⟨r.1, r.2.1, r.2.2.1, VRepL.mono h r.2.2.2⟩
  | .row t e g z l, b, r => ⟨r.1, r.2.1, r.2.2.1, DRepL.mono h r.2.2.2⟩
  | .gro t e z l, b, r => ⟨r.1, r.2.1, r.2.2.1, DRepL.mono h r.2.2.2⟩
def Obj.fz : Obj → Bool
  | .row _ _ _ z _ => z
  | .gro _ _ z _ => z
  | _ => false
def okD : D → Bool
  | .sc _ => true
  | .sl s n _ => !Nat.beq s 1 || !Nat.beq n 0
def okL (l : List D) : Bool := l.all okD
def Obj.ok : Obj → Bool
  | .row _ _ _ _ l => okL l
  | .gro _ _ _ l => okL l
  | _ => true
/-- an object without a block: a slice that is nil still -/
def Obj.none : Obj → Bool
  | .gro _ _ _ [] => true
  | _ => false
/-- what is fixed while a function runs: where its own blocks begin, the memory then, blocks that stay as they are -/
structure Ctx where
  E : Env
  n0 : Nat
  h0 : Heap
  U : Nat → Prop
  w0 : VW
  p0 : Nat
abbrev wof (C : Ctx) (st : VSt) (s : St) (μ : Nat → Option Nat) (F : Nat → Prop) : VW := ⟨aload C.E s.heap, F, μ, st.next⟩
structure SR (C : Ctx) (st : VSt) (s : St) (μ : Nat → Option Nat) (F : Nat → Prop) : Prop where
  obj : ∀ o ob, aget st.own o = some ob → ob.none = false → ∃ b blk, μ o = some b ∧ hget s.heap b = some blk ∧ ORep (wof C st s μ F) ob blk
  wr : ∀ o ob b, aget st.own o = some ob → μ o = some b → ob.fz = false → ¬ F b ∧ (st.ro ≤ o → s.prot ≤ b ∧ ¬ C.U b)
  fz : ∀ o ob b, aget st.own o = some ob → μ o = some b → ob.fz = true → F b
  inj : ∀ o o' b, μ o = some b → μ o' = some b → o = o'
  dom : ∀ o b, μ o = some b → b < s.next ∧ o < st.next ∧ ∃ ob, aget st.own o = some ob ∧ ob.none = false
  lt : ∀ b, F b → b < s.next ∧ ∃ blk, hget s.heap b = some blk
  cl : ∀ b, F b → ∃ blk, hget s.heap b = some blk ∧ ∀ n, ∀ i ∈ idsL n blk.cells, F i
  un : ∀ b, C.U b → b < C.n0 ∧ hget s.heap b = hget C.h0 b
  n0 : C.n0 ≤ s.next
  own : ∀ o ob, aget st.own o = some ob → o < st.next ∧ ob.ok = true
  hb : ∀ b blk, hget s.heap b = some blk → b < s.next
  pr : s.prot ≤ s.next
  pb : ∀ o b, μ o = some b → st.ro ≤ o → s.prot ≤ b
def FR (w : VW) (fr : VFr) (frI : Fr) : Prop := ∀ t v, aget fr t = some v → ∃ vI, fget frI t = some vI ∧ VRep w v vI
theorem FR.mono {w w' : VW} (h : VW.le w w') {fr : VFr} {frI : Fr} (r : FR w fr frI) : FR w' fr frI := fun t v e => by
  obtain ⟨vI, h1, h2⟩ := r t v e
  exact ⟨vI, h1, VRep.mono h h2⟩
theorem fget_fputV : ∀ (fr : Fr) (i j : Nat) (v : Value), fget (fput fr i v) j = if j = i then some v else fget fr j
  | [], i, j, v => by rw [fput_nil, fget_cons']
  | (k, u) :: r, i, j, v => by
    rw [fput_cons', fget_cons']
    split
    · rename_i h
      subst h
      rw [fget_cons']
      split <;> rfl
    · rename_i h
      split
      · rw [fget_cons', fget_cons']
      · rw [fget_cons', fget_fputV r i j v]
        by_cases hj : j = k
        · subst hj; rw [if_pos rfl, if_neg (fun e => h e.symm), if_pos rfl]
        · rw [if_neg hj, if_neg hj]
theorem FR.put {w : VW} {fr : VFr} {frI : Fr} (r : FR w fr frI) {v : V} {vI : Value} (h : VRep w v vI) (d : Option Nat) : FR w (aputO fr d v) (fputO frI d vI) := by
  cases d with
  | none => exact r
  | some i =>
    intro t u e
    simp only [aputO, fputO] at e ⊢
    rw [aget_aput] at e
    rw [fget_fputV]
    by_cases ht : t = i
    · rw [if_pos ht] at e ⊢
      cases e; exact ⟨vI, rfl, h⟩
    · rw [if_neg ht] at e ⊢
      exact r t u e
theorem fget_fkeepV (ks : List Nat) : ∀ (fr : Fr) (j : Nat), j ∈ ks → fget (fkeep ks fr) j = fget fr j
  | [], j, _ => rfl
  | (k, u) :: r, j, h => by
    rw [fkeep_cons', fget_cons']
    split
    · rw [fget_cons', fget_fkeepV ks r j h]
    · rename_i hk
      rw [fget_fkeepV ks r j h]
      by_cases hj : j = k
      · subst hj; exact absurd ((elemB_iff _ _).2 h) hk
      · rw [if_neg hj]
theorem FR.keep {w : VW} {fr : VFr} {frI : Fr} (r : FR w fr frI) (ks : List Nat) : FR w (akeep ks fr) (fkeep ks frI) := fun t v e => by
  obtain ⟨e1, e2⟩ := aget_akeep ks fr t v e
  obtain ⟨vI, h1, h2⟩ := r t v e1
  exact ⟨vI, by rw [fget_fkeepV ks frI t e2]; exact h1, h2⟩
end Go.Itp
/-
  The operations upon such values.
-/
namespace Go.Itp
set_option linter.unusedVariables false
set_option linter.constructorNameAsVariable false

def vev (fr : VFr) : Operand → Option V
  | .tmp t => aget fr t
  | .const v => if scOK v then some (.sc v) else none
  | .global g => some (.sc (.pointer (some ⟨g, 0, none⟩)))
  | .func f => some (.sc (.func (.func f) #[] #[]))
def vevs (fr : VFr) : List Operand → Option (List V)
  | [] => some []
  | x :: r => (vev fr x).bind fun v => (vevs fr r).bind fun vs => some (v :: vs)
/-- a number or nothing, as a bound of a slice -/
def vevO (fr : VFr) : Option Operand → Option (Option Value)
  | none => some none
  | some x => (vev fr x).bind fun v => match v with
      | .sc (.int k i) => some (some (.int k i))
      | _ => none
def vevParts (fr : VFr) : List (Nat × Nat × Operand) → Option (List (Nat × Nat × V))
  | [] => some []
  | (o, n, x) :: r => (vev fr x).bind fun v => (vevParts fr r).bind fun vs => some ((o, n, v) :: vs)
def oneV : V → Bool
  | .agg _ => false
  | .tup _ => false
  | .dead => false
  | _ => true
def vcells : V → Option (List V)
  | .agg l => if l.all oneV then some l else none
  | .tup _ => none
  | .dead => none
  | v => some [v]
def dv : D → V
  | .sc x => .sc x
  | .sl s n l => .sl s n l
def dvL : List D → List V
  | [] => []
  | d :: r => dv d :: dvL r
/-- what is kept of a value in a finished slice -/
def toD (H : VHp) : V → Option D
  | .sc x => some (.sc x)
  | .sl s n l => if okD (.sl s n l) then some (.sl s n l) else none
  | .slk s n _ l => if Nat.beq s 0 || Nat.beq s 3 then some (.sl s n l) else none
  | .ref o k n c => match aget H o with
      | some (.row _ e _ _ l) => if k + n * e ≤ l.length then some (.sl 0 n ((l.drop k).take (n * e))) else none
      | _ => none
  | .gr s o n => match aget H o with
      | some (.gro _ e _ l) => if l.length = n * e ∧ s ≠ 0 ∧ s ≠ 1 ∧ e ≠ 0 then some (.sl s n l) else none
      | _ => none
  | _ => none
def toDL (H : VHp) : List V → Option (List D)
  | [] => some []
  | v :: r => (toD H v).bind fun d => (toDL H r).map (d :: ·)
/-- the same of a value that finishes nothing -/
def toD0 : V → Option D
  | .sc x => some (.sc x)
  | .sl s n l => if okD (.sl s n l) then some (.sl s n l) else none
  | .slk s n _ l => if Nat.beq s 0 || Nat.beq s 3 then some (.sl s n l) else none
  | _ => none
def toD0L : List V → Option (List D)
  | [] => some []
  | v :: r => (toD0 v).bind fun d => (toD0L r).map (d :: ·)
/-- the objects that are finished by that -/
def fzV : V → List Nat
  | .ref o _ _ _ => [o]
  | .gr _ o _ => [o]
  | _ => []
def fzL : List V → List Nat
  | [] => []
  | v :: r => fzV v ++ fzL r
def putL {α : Type} : List α → Nat → List α → Option (List α)
  | cs, _, [] => some cs
  | [], _, _ :: _ => none
  | _ :: cs, 0, v :: vs => (putL cs 0 vs).map (v :: ·)
  | c :: cs, n + 1, vs => (putL cs n vs).map (c :: ·)
def vfill : List V → List (Nat × Nat × V) → Option (List V)
  | cs, [] => some cs
  | cs, (o, n, v) :: r => (vcells v).bind fun l => if Nat.beq l.length n && Nat.ble (o + n) cs.length then (putL cs o l).bind fun cs => vfill cs r else none
def dfill : List D → List (Nat × Nat × V) → Option (List D)
  | cs, [] => some cs
  | cs, (o, n, v) :: r => (vcells v).bind fun l => (toD0L l).bind fun l => if Nat.beq l.length n && Nat.ble (o + n) cs.length then (putL cs o l).bind fun cs => dfill cs r else none
def scL (z : List Value) : List V := z.map .sc
def scD (z : List Value) : List D := z.map .sc
def dload (l : List D) (k : Nat) : Option Nat → Option V
  | none => (lget l k).map dv
  | some n => if Nat.beq n 0 then none else (ltake (l.drop k) n).map fun l => .agg (dvL l)
def bload (l : List V) (k : Nat) : Option Nat → Option V
  | none => lget l k
  | some n => (ltake (l.drop k) n).map .agg
def vload (old : Nat → Nat → Option Value) (H : VHp) (g : Option Nat) : V → Option V
  | .ptr o k => match aget H o with
      | some (.box _ _ l) => bload l k g
      | some (.row _ _ _ _ l) => dload l k g
      | some (.gro _ _ _ l) => dload l k g
      | none => none
  | .dp l k => dload l k g
  | .sc (.pointer (some a)) => match g with
      | none => (old a.block a.off).bind fun v => if scOK v then some (.sc v) else none
      | some _ => none
  | _ => none
/-- which part of a slice: from, to, capacity; whether it lies at the slice's own place -/
def slcN (n c : Nat) (lo hi mx : Option Value) : Option (Nat × Nat × Nat × Bool) :=
  match mx with
  | none =>
    (bndNat hi n (knownCap c)).bind fun h => (bndNat lo 0 h).bind fun l =>
      if Nat.blt c big then some (l, h, c - l, Nat.beq c l)
      else if Nat.blt l (c - big) then some (l, h, c - l, false)
      else if Nat.beq l 0 then some (0, h, c, true) else none
  | some m =>
    (bndNat (some m) 0 (knownCap c)).bind fun m => if Nat.blt m big && hi.isSome then
      (bndNat hi n m).bind fun h => (bndNat lo 0 h).bind fun l => some (l, h, m - l, Nat.beq m l)
      else none
def slcP (n : Nat) (lo hi : Option Value) : Option (Nat × Nat) := (bndNat hi n n).bind fun h => (bndNat lo 0 h).bind fun l => some (l, h)
def partD (l : List D) (a b : Nat) : List D := (l.drop a).take (b - a)
def vslc (e : Nat) (lo hi mx : Option Value) : V → Option V
  | .ref o k n c => (slcN n c lo hi mx).map fun r => .ref o (if r.2.2.2 then k else k + r.1 * e) (r.2.1 - r.1) r.2.2.1
  | .gr s o n => if Nat.beq n 0 then none else (slcN n (big + n) lo hi mx).map fun r => .ref o (if r.2.2.2 then 0 else r.1 * e) (r.2.1 - r.1) r.2.2.1
  | .sl s n l => if okD (.sl s n l) then (match mx with
      | none => (slcP n lo hi).bind fun r => if Nat.beq r.1 0 || Nat.blt r.1 n then some (.sl (if Nat.beq s 0 then 0 else 3) (r.2 - r.1) (partD l (r.1 * e) (r.2 * e))) else none
      | some m => (bndNat (some m) 0 n).bind fun m => if Nat.blt m big && hi.isSome then
          (bndNat hi n m).bind fun h => (bndNat lo 0 h).bind fun l' => some (.slk (if Nat.beq s 0 then 0 else 3) (h - l') (m - l') (partD l (l' * e) (h * e))) else none) else none
  | .slk s n c l => match mx with
      | none => (slcP n lo hi).map fun r => .slk s (r.2 - r.1) (c - r.1) (partD l (r.1 * e) (r.2 * e))
      | some _ => none
  | .sc (.slice none _ _) => match mx with
      | none => (slcP 0 lo hi).map fun _ => .sc (.slice none 0 0)
      | some m => (bndNat (some m) 0 0).bind fun _ => if hi.isSome then (slcP 0 lo hi).map fun _ => .sc (.slice none 0 0) else none
  | _ => none
def isNilV' (k : Nat) : V → Option Bool
  | .sc v => isNilA k v
  | .sl s n _ => if Nat.beq k 1 then (if Nat.beq s 0 then some false else if Nat.beq s 2 then some (Nat.beq n 0) else if Nat.beq n 0 then none else some false) else none
  | .slk s n _ _ => if Nat.beq k 1 then (if Nat.beq s 0 then some false else if Nat.beq n 0 then none else some false) else none
  | .ref _ _ _ _ => if Nat.beq k 1 then some false else none
  | .gr s _ n => if Nat.beq k 1 then (if Nat.beq s 2 then some (Nat.beq n 0) else if Nat.beq n 0 then none else some false) else none
  | .ptr _ _ => if Nat.beq k 0 then some false else none
  | .dp _ _ => if Nat.beq k 0 then some false else none
  | .fn _ _ _ => if Nat.beq k 3 then some false else none
  | _ => none
def lenV : V → Option Nat
  | .sl _ n _ => some n
  | .slk _ n _ _ => some n
  | .ref _ _ n _ => some n
  | .gr _ _ n => some n
  | .sc (.slice none _ _) => some 0
  | _ => none
/-- the source of an append or a copy: its first m elements, and what they finish -/
def srcD (H : VHp) (e m : Nat) : V → Option (List D × List Nat)
  | .sl _ n l => if l.length = n * e ∧ m ≤ n then some (l.take (m * e), []) else none
  | .slk _ n _ l => if l.length = n * e ∧ m ≤ n then some (l.take (m * e), []) else none
  | .ref o k n _ => match aget H o with
      | some (.row _ _ _ _ l) => if k + m * e ≤ l.length then some ((l.drop k).take (m * e), []) else none
      | some (.gro _ _ _ l) => if k + m * e ≤ l.length ∧ m ≠ 0 ∧ e ≠ 0 then some ((l.drop k).take (m * e), []) else none
      | some (.box _ _ l) => if k + m * e ≤ l.length then (toDL H ((l.drop k).take (m * e))).map fun ds => (ds, fzL ((l.drop k).take (m * e))) else none
      | _ => none
  | .gr _ o n => match aget H o with
      | some (.gro _ _ _ l) => if l.length = n * e ∧ m ≤ n ∧ e ≠ 0 then some (l.take (m * e), []) else none
      | _ => none
  | .sc (.slice none _ _) => if Nat.beq m 0 then some ([], []) else none
  | .sc (.string s) => if Nat.beq e 1 && Nat.ble m s.size then some ((s.data.toList.take m).map fun b => .sc (.int .u8 b.toNat), []) else none
  | _ => none
def lenS : V → Option Nat
  | .sc (.string s) => some s.size
  | v => lenV v
def dbytes : List D → Option (List UInt8)
  | [] => some []
  | .sc (.int .u8 n) :: r => (dbytes r).map (UInt8.ofNat n.toNat :: ·)
  | _ :: _ => none
def okV : V → Bool
  | .sl s n l => okD (.sl s n l)
  | _ => true
abbrev VO := Option (V × Option Obj × List Nat)
def vp (v : Option V) : VO := v.map fun v => (v, none, [])
/-- an append that must move, or adds nothing -/
def vappP (H : VHp) (nx : Nat) (t : TypeId) (e b : Nat) (x y : V) : VO :=
  (lenS y).bind fun m => (srcD H e m y).bind fun new =>
    if Nat.beq m 0 then (match x with
      | .sl s n l => if okD (.sl s n l) then some (.sl s n l, none, []) else none
      | .slk s n c l => some (.slk s n c l, none, [])
      | .ref o k n c => some (.ref o k n c, none, [])
      | .sc (.slice none _ _) => some (.sc (.slice none 0 0), none, [])
      | _ => none)
    else if okL new.1 && !Nat.beq e 0 then (match x with
      | .sc (.slice none _ _) => if Nat.ble m room && Nat.ble (m * b) room then some (.gr 2 nx m, some (.gro t e false new.1), new.2) else none
      | .slk s n c l => if l.length = n * e ∧ Nat.blt c (n + m) && okL l && Nat.ble (n + m) room && Nat.ble ((n + m) * b) room then some (.gr 2 nx (n + m), some (.gro t e false (l ++ new.1)), new.2) else none
      | .ref o k n c => if Nat.blt c big && Nat.blt c (n + m) && Nat.ble (n + m) room && Nat.ble ((n + m) * b) room then
          (srcD H e n (.ref o k n c)).bind fun cs => if okL cs.1 then some (.gr 2 nx (n + m), some (.gro t e false (cs.1 ++ new.1)), cs.2 ++ new.2) else none else none
      | _ => none) else none
/-- an append of a made slice -/
def vappMk (nx : Nat) (t : TypeId) (e b : Nat) (z : List Value) : V → V → VO
  | x, .sc (.int .i64 n) =>
    if n = 0 then (match x with
      | .sl s n l => if okD (.sl s n l) then some (.sl s n l, none, []) else none
      | .slk s n c l => some (.slk s n c l, none, [])
      | .ref o k n c => some (.ref o k n c, none, [])
      | .sc (.slice none _ _) => some (.sc (.slice none 0 0), none, [])
      | _ => none)
    else if 0 < n ∧ n ≤ room ∧ z.all scOK = true ∧ z ≠ [] then (match x with
      | .sc (.slice none _ _) => if Nat.ble (n.toNat * b) room then some (.gr 2 nx n.toNat, some (.gro t e false (scD (rep z n.toNat))), []) else none
      | .slk _ k c l => if l.length = k * e ∧ Nat.blt c (k + n.toNat) && okL l && Nat.ble (k + n.toNat) room && Nat.ble ((k + n.toNat) * b) room then some (.gr 2 nx (k + n.toNat), some (.gro t e false (l ++ scD (rep z n.toNat))), []) else none
      | _ => none)
    else none
  | _, _ => none
def vpstep (old : Nat → Nat → Option Value) (fr : VFr) (H : VHp) (nx : Nat) : AOp → VO
  | .mov x => vp (vev fr x)
  | .pick c a b => (vev fr c).bind fun c => match c with | .sc (.bool t) => vp (vev fr (if t then a else b)) | _ => none
  | .alloc t z => if (expand z).all scOK then some (.ptr nx 0, some (.box t 1 (scL (expand z))), []) else none
  | .box t x => (vev fr x).bind fun v => (vcells v).bind fun cs => some (.ptr nx 0, some (.box t 1 cs), [])
  | .build z ps => if z.all scOK then (vevParts fr ps).bind fun ps => vp ((vfill (scL z) ps).map .agg) else none
  | .mkRow t e n z ps => if (rep z n).all scOK && Nat.blt n big then (vevParts fr ps).bind fun ps => (match dfill (scD (rep z n)) ps with
      | some cs => some (.ref nx 0 n n, some (.row t e false false cs), [])
      | none => (vfill (scL (rep z n)) ps).bind fun cs => some (.ref nx 0 n n, some (.box t e cs), [])) else none
  | .load g a => (vev fr a).bind fun a => vp (vload old H g a)
  | .nilChk x => (vev fr x).bind fun v => match v with
      | .ptr o k => some (.ptr o k, none, [])
      | .dp l o => some (.dp l o, none, [])
      | .fn f a b => some (.fn f a b, none, [])
      | .ifc t v => some (.ifc t v, none, [])
      | .sc (.iface t v) => some (.sc (.iface t v), none, [])
      | .sc (.func (.func f) a b) => some (.sc (.func (.func f) a b), none, [])
      | .sc (.pointer (some a)) => some (.sc (.pointer (some a)), none, [])
      | _ => none
  | .bin op x y => (vev fr x).bind fun a => (vev fr y).bind fun b => match a, b with
      | .sc a, .sc b => vp ((binA op a b).map .sc)
      | _, _ => none
  | .eqB neg x y => (vev fr x).bind fun a => (vev fr y).bind fun b => match a, b with
      | .sc (.bool a), .sc (.bool b) => some (.sc (.bool (if neg then !(a == b) else a == b)), none, [])
      | _, _ => none
  | .eqNil k neg x y => (vev fr x).bind fun a => (vev fr y).bind fun b => (isNilV' k a).bind fun p => (isNilV' k b).bind fun q => if p || q then some (.sc (.bool (if neg then !(p && q) else p && q)), none, []) else none
  | .un op x => (vev fr x).bind fun v => match v with
      | .sc v => vp ((unA op v).map .sc)
      | _ => none
  | .convI k x => (vev fr x).bind fun v => match v with
      | .sc (.int _ n) => some (.sc (.int k (k.wrap n)), none, [])
      | _ => none
  | .convS x => (vev fr x).bind fun v => match v with
      | .sc (.string s) => some (.sc (.string s), none, [])
      | _ => none
  | .b2s x => (vev fr x).bind fun v => if okV v then (lenV v).bind fun n => (srcD H 1 n v).bind fun l => if !l.2.isEmpty then none else (dbytes l.1).bind fun bs => some (.sc (.string ⟨bs.toArray⟩), none, []) else none
  | .mkSlice t e b z l c => (vev fr l).bind fun l => (vev fr c).bind fun c => match l, c with
      | .sc (.int _ l), .sc (.int _ c) => if 0 ≤ l ∧ l ≤ c ∧ c * b ≤ room ∧ c ≤ room ∧ (rep z c.toNat).all scOK = true then some (.ref nx 0 l.toNat c.toNat, some (.row t e false false (scD (rep z c.toNat))), []) else none
      | _, _ => none
  | .slcS x lo hi => (vev fr x).bind fun x => (vevO fr lo).bind fun lo => (vevO fr hi).bind fun hi => match x with
      | .sc (.string t) => (bndNat hi t.size t.size).bind fun h => (bndNat lo 0 h).bind fun l => some (.sc (.string (t.extract l h)), none, [])
      | _ => none
  | .slc e x lo hi mx => (vev fr x).bind fun x => (vevO fr lo).bind fun lo => (vevO fr hi).bind fun hi => (vevO fr mx).bind fun mx => vp (vslc e lo hi mx x)
  | .slcA n e x lo hi => (vev fr x).bind fun x => (vevO fr lo).bind fun lo => (vevO fr hi).bind fun hi => match x with
      | .ptr o k => if Nat.blt n big then vp (vslc e lo hi none (.ref o k n n)) else none
      | _ => none
  | .fldA o x => (vev fr x).bind fun x => match x with
      | .ptr i k => some (.ptr i (k + o), none, [])
      | .dp l k => some (.dp l (k + o), none, [])
      | .sc (.pointer (some a)) => some (.sc (.pointer (some (aadd a o))), none, [])
      | _ => none
  | .fldV o n x => (vev fr x).bind fun x => match x with
      | .agg cs => match n with
          | none => vp (lget cs o)
          | some n => vp ((ltake (cs.drop o) n).map .agg)
      | _ => none
  | .idxS e x i => (vev fr x).bind fun x => (vev fr i).bind fun i => match i with
      | .sc i => match x with
          | .ref o k n _ => (idxNat i n).bind fun i => some (.ptr o (k + i * e), none, [])
          | .gr _ o n => (idxNat i n).bind fun i => some (.ptr o (i * e), none, [])
          | .sl _ n l => (idxNat i n).bind fun i => some (.dp l (i * e), none, [])
          | .slk _ n _ l => (idxNat i n).bind fun i => some (.dp l (i * e), none, [])
          | _ => none
      | _ => none
  | .idxA n e x i => (vev fr x).bind fun x => (vev fr i).bind fun i => match i with
      | .sc i => match x with
          | .ptr o k => (idxNat i n).bind fun i => some (.ptr o (k + i * e), none, [])
          | .dp l k => (idxNat i n).bind fun i => some (.dp l (k + i * e), none, [])
          | .sc (.pointer (some a)) => (idxNat i n).bind fun i => some (.sc (.pointer (some (aadd a (i * e)))), none, [])
          | _ => none
      | _ => none
  | .idxStr x i => (vev fr x).bind fun x => (vev fr i).bind fun i => match x, i with
      | .sc (.string t), .sc i => (idxNat i t.size).bind fun i => (lget t.data.toList i).bind fun b => some (.sc (.int .u8 b.toNat), none, [])
      | _, _ => none
  | .idxV n e g x i => (vev fr x).bind fun x => (vev fr i).bind fun i => match x, i with
      | .agg cs, .sc i => (idxNat i n).bind fun i => match g with
          | none => vp (lget cs (i * e))
          | some m => vp ((ltake (cs.drop (i * e)) m).map .agg)
      | _, _ => none
  | .ext x i => (vev fr x).bind fun x => match x with
      | .tup vs => vp (lget vs i)
      | _ => none
  | .mkFn f a b => (vevs fr a).bind fun a => (vevs fr b).bind fun b => some (.fn f a b, none, [])
  | .mkIf t x => (vev fr x).bind fun v => match v with
      | .sc v => some (.sc (.iface t v), none, [])
      | v => some (.ifc t v, none, [])
  | .len t x => (vev fr x).bind fun x => if t then (match x with | .sc (.string b) => some (.sc (.int .i64 b.size), none, []) | _ => none)
      else (lenV x).bind fun n => some (.sc (.int .i64 n), none, [])
  | .mm g x y => (vev fr x).bind fun x => (vev fr y).bind fun y => match x, y with
      | .sc (.int k a), .sc (.int _ b) => some (.sc (.int k (if g then (if b > a then b else a) else if b < a then b else a)), none, [])
      | _, _ => none
  | .app t e b x y => (vev fr x).bind fun x => (vev fr y).bind fun y => vappP H nx t e b x y
  | .eqIf neg lit ts x y => (vev fr x).bind fun a => (vev fr y).bind fun b => match a, b with
      | .sc a, .sc b => (eqIfA lit ts a b).bind fun r => some (.sc (.bool (if neg then !r else r)), none, [])
      | .ifc _ _, .sc .nilIface => some (.sc (.bool neg), none, [])
      | _, _ => none
  | .eqPtr neg x y => (vev fr x).bind fun a => (vev fr y).bind fun b => match a, b with
      | .sc a, .sc b => (eqPtrA a b).bind fun r => some (.sc (.bool (if neg then !r else r)), none, [])
      | .sc (.pointer none), .ptr _ _ => some (.sc (.bool neg), none, [])
      | .ptr _ _, .sc (.pointer none) => some (.sc (.bool neg), none, [])
      | .ptr o k, .ptr o' k' => if o = o' ∧ (aget H o).isSome then (match aget H o with | some (.gro _ _ _ _) => none | _ => some (.sc (.bool (if neg then !(Nat.beq k k') else Nat.beq k k')), none, [])) else none
      | _, _ => none
  | .appMk t e b z x y => (vev fr x).bind fun x => (vev fr y).bind fun y => vappMk nx t e b z x y
  | .s2b t x => (vev fr x).bind fun v => match v with
      | .sc (.string b) => if Nat.ble b.size room then some (.ref nx 0 b.size (big + b.size), some (.row t 1 true false (b.data.toList.map fun b => .sc (.int .u8 b.toNat))), []) else none
      | _ => none
  | .cap x => (vev fr x).bind fun v => match v with
      | .ref _ _ _ c => if Nat.blt c big then some (.sc (.int .i64 c), none, []) else none
      | .slk _ _ c _ => some (.sc (.int .i64 c), none, [])
      | _ => none
  | .toUns x => (vev fr x).bind fun v => match v with
      | .sc (.pointer none) => some (.sc (.pointer none), none, [])
      | .ptr o k => (match aget H o with | some (.box _ _ l) => if Nat.blt k l.length then some (.ptr o k, none, []) else none | _ => none)
      | _ => none
  | .fromUns t n x => (vev fr x).bind fun v => match v with
      | .sc (.pointer none) => some (.sc (.pointer none), none, [])
      | .ptr o k => (match aget H o with | some (.box t' _ l) => if Nat.beq t' t && Nat.beq k 0 && Nat.ble n l.length && Nat.blt 0 n then some (.ptr o k, none, []) else none | _ => none)
      | _ => none
  | .sdata x => (vev fr x).bind fun v => match v with
      | .sc (.slice none _ _) => some (.sc (.pointer none), none, [])
      | .ref o k _ c => if Nat.beq c 0 || Nat.beq c big then none else some (.ptr o k, none, [])
      | .gr _ o n => if Nat.beq n 0 then none else some (.ptr o 0, none, [])
      | _ => none
  | _ => none

def Obj.froz : Obj → Obj
  | .row t e g _ l => .row t e g true l
  | .gro t e _ l => .gro t e true l
  | o => o
def frozA (fz : List Nat) : VHp → VHp
  | [] => []
  | (j, o) :: r => (j, if elemB j fz then o.froz else o) :: frozA fz r
def VSt.push (st : VSt) (ob : Option Obj) (fz : List Nat) : VSt :=
  match ob with
  | none => ⟨frozA fz st.own, st.next, st.ro⟩
  | some o => ⟨(st.next, o) :: frozA fz st.own, st.next + 1, st.ro⟩

/-! ### the operations that write -/
/-- slices, all of them -/
def rowsB (ro : Nat) (H : VHp) : List Nat → Bool
  | [] => true
  | o :: r => Nat.ble ro o && (match aget H o with | some (.row _ _ _ _ _) => true | some (.gro _ _ _ _) => true | _ => false) && rowsB ro H r
def vstore (st : VSt) (n : Nat) (a v : V) : Option VSt :=
  (vcells v).bind fun cs => if Nat.beq cs.length n then (match a with
    | .ptr o k => if !Nat.ble st.ro o then none else match aget st.own o with
        | some (.box t e l) => if cs.all oneV then (putL l k cs).map fun l => ⟨aset st.own o (.box t e l), st.next, st.ro⟩ else none
        | some (.row t e g z l) => if z || elemB o (fzL cs) || !rowsB st.ro st.own (fzL cs) then none else (toDL st.own cs).bind fun ds => (putL l k ds).map fun l => ⟨aset (frozA (fzL cs) st.own) o (.row t e g false l), st.next, st.ro⟩
        | some (.gro t e z l) => if z || elemB o (fzL cs) || cs.isEmpty || !rowsB st.ro st.own (fzL cs) then none else (toDL st.own cs).bind fun ds => (putL l k ds).map fun l => ⟨aset (frozA (fzL cs) st.own) o (.gro t e false l), st.next, st.ro⟩
        | none => none
    | _ => none) else none
/-- an append to a slice that has grown, or within known room -/
def vappA (st : VSt) (t : TypeId) (e b : Nat) (x y : V) : Option (V × VSt) :=
  (lenS y).bind fun m => (srcD st.own e m y).bind fun new => if okL new.1 && !Nat.beq e 0 && rowsB st.ro st.own new.2 then (match x with
    | .gr s o n => match aget st.own o with
        | some (.gro t' e' z l) => if Nat.ble st.ro o && !z && (Nat.beq s 2 || !Nat.beq n 0) && Nat.beq t' t && Nat.beq e' e && Nat.beq l.length (n * e) && Nat.ble (n + m) room && Nat.ble ((n + m) * b) room && !elemB o new.2 then
            some (.gr 2 st.next (n + m), ⟨(st.next, .gro t e false (l ++ new.1)) :: frozA new.2 (adel o st.own), st.next + 1, st.ro⟩) else none
        | _ => none
    | .ref o k n c => match aget st.own o with
        | some (.row t' e' g z l) => if !Nat.ble st.ro o || z || Nat.beq m 0 || !Nat.ble (n + m) room || !Nat.ble ((n + m) * b) room then none
            else if Nat.blt c big then (if Nat.ble (n + m) c && !elemB o new.2 then (putL l (k + n * e) new.1).map fun l => (.ref o k (n + m) c, ⟨aset (frozA new.2 st.own) o (.row t' e' g false l), st.next, st.ro⟩) else none)
            else if g && Nat.beq t' t && Nat.beq e' e && Nat.beq (k + n * e) l.length && Nat.beq c (big + n) && !elemB o new.2 then
              some (.gr 2 st.next (n + m), ⟨(st.next, .gro t e false (l.drop k ++ new.1)) :: frozA new.2 (adel o st.own), st.next + 1, st.ro⟩)
            else if Nat.ble (n + m) (c - big) && !elemB o new.2 && !(g && Nat.beq t' t && Nat.beq e' e && Nat.beq (k + n * e) l.length && Nat.beq c (big + n)) then (putL l (k + n * e) new.1).map fun l => (.ref o k (n + m) c, ⟨aset (frozA new.2 st.own) o (.row t' e' g false l), st.next, st.ro⟩)
            else none
        | _ => none
    | _ => none) else none
def vcopy (st : VSt) (e : Nat) (d x : V) : Option (V × VSt) :=
  (lenV d).bind fun n => (lenS x).bind fun m => (srcD st.own e (Nat.min m n) x).bind fun cs => if okL cs.1 && cs.2.isEmpty then (match d with
    | .ref o k _ _ => match aget st.own o with
        | some (.row t e' g z l) => if !Nat.ble st.ro o || z then none else (putL l k cs.1).map fun l => (.sc (.int .i64 (Nat.min m n)), ⟨aset st.own o (.row t e' g false l), st.next, st.ro⟩)
        | _ => none
    | .gr _ o _ => match aget st.own o with
        | some (.gro t e' z l) => if !Nat.ble st.ro o || z || Nat.beq n 0 || Nat.beq e 0 || !Nat.beq l.length (n * e) then none else (putL l 0 cs.1).map fun l => (.sc (.int .i64 (Nat.min m n)), ⟨aset st.own o (.gro t e' false l), st.next, st.ro⟩)
        | _ => none
    | .sc (.slice none _ _) => some (.sc (.int .i64 (Nat.min m n)), st)
    | _ => none) else none
def vustr (st : VSt) (t : TypeId) (p n : V) : Option (V × VSt) :=
  match p, n with
  | .sc (.pointer none), .sc (.int .i64 n) => if n = 0 then some (.sc (.string .empty), st) else none
  | .ptr o k, .sc (.int .i64 n) => if 0 < n ∧ n ≤ room ∧ Nat.ble st.ro o = true then (match aget st.own o with
      | some (.gro t' _ z l) => if Nat.beq t' t && !z then (ltake (l.drop k) n.toNat).bind fun cs => (dbytes cs).map fun bs => (.sc (.string ⟨bs.toArray⟩), ⟨adel o st.own, st.next, st.ro⟩) else none
      | some (.row t' _ _ z l) => if Nat.beq t' t && !z then (ltake (l.drop k) n.toNat).bind fun cs => (dbytes cs).map fun bs => (.sc (.string ⟨bs.toArray⟩), ⟨adel o st.own, st.next, st.ro⟩) else none
      | _ => none) else none
  | _, _ => none
def vwstep (fr : VFr) (st : VSt) : AOp → Option (V × VSt)
  | .store n a v => (vev fr a).bind fun a => (vev fr v).bind fun v => (vstore st n a v).map fun st => (.tup [], st)
  | .app t e b x y => (vev fr x).bind fun x => (vev fr y).bind fun y => vappA st t e b x y
  | .copy e d x => (vev fr d).bind fun d => (vev fr x).bind fun x => vcopy st e d x
  | .ustr t p n => (vev fr p).bind fun p => (vev fr n).bind fun n => vustr st t p n
  | _ => none
def vstep (old : Nat → Nat → Option Value) (fr : VFr) (st : VSt) (o : AOp) : Option (V × VSt) :=
  match vpstep old fr st.own st.next o with
  | some (v, ob, fz) => if rowsB st.ro st.own fz then some (v, st.push ob fz) else none
  | none => vwstep fr st o
end Go.Itp
/-
  What the interpreter reads and builds where such values stand for its own.
-/
namespace Go.Itp
set_option linter.unusedVariables false
set_option linter.constructorNameAsVariable false

theorem okD_sl {s n : Nat} {l : List D} : okD (.sl s n l) = true ↔ s ≠ 1 ∨ n ≠ 0 := by
  have hb : ∀ i j : Nat, Nat.beq i j = false ↔ i ≠ j := fun i j => by
    rw [← Bool.not_eq_true, nbeq]
  simp only [okD, Bool.or_eq_true, Bool.not_eq_true', hb]
structure HR (E : Env) (H : VHp) (heap : Heap) (w : VW) : Prop where
  ld : w.ld = aload E heap
  obj : ∀ o ob, aget H o = some ob → ob.none = false → ∃ b blk, w.μ o = some b ∧ hget heap b = some blk ∧ ORep w ob blk
  ex : ∀ b, w.F b → ∃ blk, hget heap b = some blk
section
variable {E : Env} {H : VHp} {heap : Heap} {w w' : VW} {fr : VFr} {frI : Fr}

theorem aadd_aadd (a : Addr) (i j : Nat) : aadd (aadd a i) j = aadd a (i + j) := by simp [aadd, Nat.add_assoc]
theorem DRepA.get : ∀ {l : List D} {a : Addr}, DRepA w l a → ∀ (i : Nat) d, l[i]? = some d → ∃ v, w.ld (aadd a i) = some v ∧ DRep w d v
  | [], a, _, i, d, e => by simp at e
  | x :: r, a, h, i, d, e => by
    simp only [DRepA] at h
    cases i with
    | zero => simp at e; subst e; exact h.1
    | succ i =>
      simp at e
      have := DRepA.get h.2 i d e
      rw [aadd_aadd, Nat.add_comm 1 i] at this
      exact this
theorem DRepA.of : ∀ {l : List D} {a : Addr}, (∀ (i : Nat) d, l[i]? = some d → ∃ v, w.ld (aadd a i) = some v ∧ DRep w d v) → DRepA w l a
  | [], a, _ => by simp only [DRepA]
  | x :: r, a, h => by
    simp only [DRepA]
    refine ⟨h 0 x rfl, DRepA.of fun i d e => ?_⟩
    have := h (i + 1) d (by simpa using e)
    rw [aadd_aadd, Nat.add_comm 1 i]
    exact this
theorem DRepA.part {l : List D} {a : Addr} (h : DRepA w l a) (i n : Nat) : DRepA w ((l.drop i).take n) (aadd a i) := DRepA.of fun j d e => by
  rw [List.getElem?_take] at e
  split at e
  · rw [List.getElem?_drop] at e
    rw [aadd_aadd]
    exact h.get (i + j) d e
  · cases e
theorem DRepL.length : ∀ {l : List D} {vs : List Value}, DRepL w l vs → vs.length = l.length
  | [], vs, h => by simp only [DRepL] at h; simp [h]
  | d :: r, vs, h => by
    simp only [DRepL] at h
    obtain ⟨v, vs', rfl, h1, h2⟩ := h
    simp [h2.length]
theorem DRepL.get : ∀ {l : List D} {vs : List Value}, DRepL w l vs → ∀ (i : Nat) d, l[i]? = some d → ∃ v, vs[i]? = some v ∧ DRep w d v
  | [], vs, _, i, d, e => by simp at e
  | x :: r, vs, h, i, d, e => by
    simp only [DRepL] at h
    obtain ⟨v, vs', rfl, h1, h2⟩ := h
    cases i with
    | zero => simp at e; subst e; exact ⟨v, rfl, h1⟩
    | succ i => simp at e; obtain ⟨u, a, b⟩ := h2.get i d e; exact ⟨u, by simpa using a, b⟩
theorem DRepL.of : ∀ {l : List D} {vs : List Value}, vs.length = l.length → (∀ (i : Nat) d v, l[i]? = some d → vs[i]? = some v → DRep w d v) → DRepL w l vs
  | [], vs, hl, _ => by simp only [DRepL]; exact List.eq_nil_of_length_eq_zero hl
  | x :: r, [], hl, _ => by simp at hl
  | x :: r, v :: vs, hl, h => by
    simp only [DRepL]
    exact ⟨v, vs, rfl, h 0 x v rfl rfl, DRepL.of (by simpa using hl) fun i d u e1 e2 => h (i + 1) d u (by simpa using e1) (by simpa using e2)⟩
theorem DRepL.append {l m : List D} {vs us : List Value} (h : DRepL w l vs) (k : DRepL w m us) : DRepL w (l ++ m) (vs ++ us) := by
  refine DRepL.of (by simp [h.length, k.length]) fun i d v e1 e2 => ?_
  have hl := h.length
  by_cases hi : i < l.length
  · rw [List.getElem?_append_left hi] at e1
    rw [List.getElem?_append_left (by omega)] at e2
    obtain ⟨v', a, b⟩ := h.get i d e1
    rw [e2] at a; cases a; exact b
  · rw [List.getElem?_append_right (by omega)] at e1
    rw [List.getElem?_append_right (by omega)] at e2
    rw [hl] at e2
    obtain ⟨v', a, b⟩ := k.get _ d e1
    rw [e2] at a; cases a; exact b
theorem DRepL.part {l : List D} {vs : List Value} (h : DRepL w l vs) (i n : Nat) : DRepL w ((l.drop i).take n) ((vs.drop i).take n) := by
  have hl := h.length
  refine DRepL.of (by simp [hl]) fun j d v e1 e2 => ?_
  rw [List.getElem?_take] at e1 e2
  split at e1
  · rename_i hj
    rw [if_pos hj] at e2
    rw [List.getElem?_drop] at e1 e2
    obtain ⟨v', a, b⟩ := h.get _ d e1
    rw [e2] at a; cases a; exact b
  · cases e1
theorem DRepL.drop {l : List D} {vs : List Value} (h : DRepL w l vs) (i : Nat) : DRepL w (l.drop i) (vs.drop i) := by
  have hl := h.length
  refine DRepL.of (by simp [hl]) fun j d v e1 e2 => ?_
  rw [List.getElem?_drop] at e1 e2
  obtain ⟨v', a, b⟩ := h.get _ d e1
  rw [e2] at a; cases a; exact b
theorem DRepL.take {l : List D} {vs : List Value} (h : DRepL w l vs) (n : Nat) : DRepL w (l.take n) (vs.take n) := h.part 0 n
theorem VRepL.length : ∀ {l : List V} {vs : List Value}, VRepL w l vs → vs.length = l.length
  | [], vs, h => by simp only [VRepL] at h; simp [h]
  | d :: r, vs, h => by
    simp only [VRepL] at h
    obtain ⟨v, vs', rfl, h1, h2⟩ := h
    simp [h2.length]
theorem VRepL.get : ∀ {l : List V} {vs : List Value}, VRepL w l vs → ∀ (i : Nat) d, l[i]? = some d → ∃ v, vs[i]? = some v ∧ VRep w d v
  | [], vs, _, i, d, e => by simp at e
  | x :: r, vs, h, i, d, e => by
    simp only [VRepL] at h
    obtain ⟨v, vs', rfl, h1, h2⟩ := h
    cases i with
    | zero => simp at e; subst e; exact ⟨v, rfl, h1⟩
    | succ i => simp at e; obtain ⟨u, a, b⟩ := h2.get i d e; exact ⟨u, by simpa using a, b⟩
theorem VRepL.of : ∀ {l : List V} {vs : List Value}, vs.length = l.length → (∀ (i : Nat) d v, l[i]? = some d → vs[i]? = some v → VRep w d v) → VRepL w l vs
  | [], vs, hl, _ => by simp only [VRepL]; exact List.eq_nil_of_length_eq_zero hl
  | x :: r, [], hl, _ => by simp at hl
  | x :: r, v :: vs, hl, h => by
    simp only [VRepL]
    exact ⟨v, vs, rfl, h 0 x v rfl rfl, VRepL.of (by simpa using hl) fun i d u e1 e2 => h (i + 1) d u (by simpa using e1) (by simpa using e2)⟩
theorem VRepL.part {l : List V} {vs : List Value} (h : VRepL w l vs) (i n : Nat) : VRepL w ((l.drop i).take n) ((vs.drop i).take n) := by
  have hl := h.length
  refine VRepL.of (by simp [hl]) fun j d v e1 e2 => ?_
  rw [List.getElem?_take] at e1 e2
  split at e1
  · rename_i hj
    rw [if_pos hj] at e2
    rw [List.getElem?_drop] at e1 e2
    obtain ⟨v', a, b⟩ := h.get _ d e1
    rw [e2] at a; cases a; exact b
  · cases e1
theorem VRepL.sc : ∀ (z : List Value), z.all scOK = true → VRepL w (scL z) z
  | [], _ => by simp [scL, VRepL]
  | v :: r, h => by
    simp only [List.all_cons, Bool.and_eq_true] at h
    simp only [scL, List.map_cons, VRepL, VRep]
    exact ⟨v, r, rfl, ⟨rfl, h.1⟩, VRepL.sc r h.2⟩
theorem DRepL.sc : ∀ (z : List Value), z.all scOK = true → DRepL w (scD z) z
  | [], _ => by simp [scD, DRepL]
  | v :: r, h => by
    simp only [List.all_cons, Bool.and_eq_true] at h
    simp only [scD, List.map_cons, DRepL, DRep]
    exact ⟨v, r, rfl, ⟨rfl, h.1⟩, DRepL.sc r h.2⟩
theorem dv_rep {d : D} {v : Value} (h : DRep w d v) : VRep w (dv d) v := by
  cases d with
  | sc x => simp only [DRep] at h; simp only [dv, VRep]; exact h
  | sl s n l => simp only [dv, VRep]; exact h
theorem dvL_rep : ∀ {l : List D} {vs : List Value}, DRepL w l vs → VRepL w (dvL l) vs
  | [], vs, h => by simp only [DRepL] at h; simp only [dvL, VRepL]; exact h
  | d :: r, vs, h => by
    simp only [DRepL] at h
    obtain ⟨v, vs', rfl, h1, h2⟩ := h
    simp only [dvL, VRepL]
    exact ⟨v, vs', rfl, dv_rep h1, dvL_rep h2⟩
theorem VRep.one {v : V} {vI : Value} (h : VRep w v vI) (ho : oneV v = true) : oneCell vI = true := by
  cases v with
  | sc x => simp only [VRep] at h; rw [h.1]; exact scOK_one _ h.2
  | sl s n l =>
    simp only [VRep, DRep] at h
    rcases h with ⟨a, c, rfl, _⟩ | ⟨_, _, _, rfl | ⟨_, k, b, e, rfl⟩⟩ <;> rfl
  | slk s n c l =>
    simp only [VRep] at h
    rcases h with ⟨_, _, ⟨a, rfl, _⟩ | ⟨_, _, _, _, rfl⟩⟩ <;> rfl
  | dp l o => simp only [VRep] at h; obtain ⟨a, rfl, _⟩ := h; rfl
  | ref o k n c => simp only [VRep] at h; obtain ⟨_, _, b, rfl, _⟩ := h; rfl
  | gr s o n =>
    simp only [VRep] at h
    rcases h with ⟨_, ⟨_, rfl | ⟨_, a, c, rfl, _⟩⟩ | ⟨_, b, rfl, _⟩⟩ <;> rfl
  | ptr o k => simp only [VRep] at h; obtain ⟨_, b, rfl, _⟩ := h; rfl
  | agg l => simp [oneV] at ho
  | tup l => simp [oneV] at ho
  | fn f a b => simp only [VRep] at h; obtain ⟨_, _, rfl, _⟩ := h; rfl
  | ifc t v => simp only [VRep] at h; obtain ⟨_, rfl, _⟩ := h; rfl
  | dead => simp [oneV] at ho
theorem VRepL.one {l : List V} {vs : List Value} (h : VRepL w l vs) (ho : l.all oneV = true) : vs.all oneCell = true := by
  rw [List.all_eq_true] at ho ⊢
  intro v hv
  obtain ⟨i, hi, e⟩ := List.getElem_of_mem hv
  have hl := h.length
  have hi' : i < l.length := by omega
  obtain ⟨v', a, b⟩ := h.get i (l[i]) (by simp [hi'])
  rw [List.getElem?_eq_getElem hi, e] at a
  cases a
  exact b.one (ho _ (List.getElem_mem _))
theorem DRep.one {d : D} {v : Value} (h : DRep w d v) : oneCell v = true := (dv_rep h).one (by cases d <;> rfl)
theorem DRepL.one {l : List D} {vs : List Value} (h : DRepL w l vs) : vs.all oneCell = true := by
  rw [List.all_eq_true]
  intro v hv
  obtain ⟨i, hi, e⟩ := List.getElem_of_mem hv
  have hl := h.length
  have hi' : i < l.length := by omega
  obtain ⟨v', a, b⟩ := h.get i (l[i]) (by simp [hi'])
  rw [List.getElem?_eq_getElem hi, e] at a
  cases a
  exact b.one
theorem vcells_rep {v : V} {vI : Value} {cs : List V} (h : VRep w v vI) (hc : vcells v = some cs) : VRepL w cs vI.cells.toList ∧ cs.all oneV = true := by
  have key : oneV v = true → cs = [v] → VRepL w cs vI.cells.toList ∧ cs.all oneV = true := fun ho e => by
    subst e
    rw [cells_one (h.one ho)]
    simp only [VRepL, List.all_cons, ho, List.all_nil, Bool.and_true, and_true]
    exact ⟨vI, [], rfl, h, rfl⟩
  cases v with
  | agg l =>
    simp only [vcells] at hc
    split at hc
    · rename_i hl
      cases hc
      simp only [VRep] at h
      obtain ⟨vs, rfl, h⟩ := h
      exact ⟨h, hl⟩
    · cases hc
  | tup l => simp [vcells] at hc
  | dead => simp [vcells] at hc
  | _ => simp only [vcells, Option.some.injEq] at hc; exact key rfl hc.symm

/-! ### reading -/
theorem old_list {b : Nat} : ∀ (n o : Nat) (f : Nat → Value), (∀ i, i < n → E.old b (o + i) = some (f i)) → oldN E b o n = some ((List.range n).map f)
  | 0, o, f, h => by simp [oldN]
  | n + 1, o, f, h => by
    simp only [oldN]
    rw [show E.old b o = some (f 0) from h 0 (by omega)]
    simp only [Option.bind_some]
    rw [old_list n (o + 1) (fun i => f (i + 1)) (fun i hi => by have := h (i + 1) (by omega); rw [show o + 1 + i = o + (i + 1) by omega]; exact this)]
    simp [List.range_succ_eq_map, List.map_map]
theorem range_eq {α : Type} (cs : List α) (n : Nat) (f : Nat → α) (hn : n ≤ cs.length) (h : ∀ i, i < n → cs[i]? = some (f i)) : cs.take n = (List.range n).map f := by
  refine List.ext_getElem? fun i => ?_
  rw [List.getElem?_take]
  by_cases hi : i < n
  · rw [if_pos hi, h i hi]; simp [hi]
  · rw [if_neg hi]; simp [hi]
/-- cells one behind the other are read at once -/
theorem aloadN_ok (hr : HR E H heap w) {a : Addr} {l : List D} (hi : w.inF a) (h : DRepA w l a) (n : Nat) (hn : n ≤ l.length) : ∃ vs, aloadN E heap a n = some vs ∧ DRepL w (l.take n) vs := by
  have hg : ∀ i, i < n → ∃ v, aload E heap (aadd a i) = some v ∧ ∀ d, l[i]? = some d → DRep w d v := fun i hin => by
    obtain ⟨v, e1, e2⟩ := h.get i (l[i]'(by omega)) (by simp)
    rw [hr.ld] at e1
    exact ⟨v, e1, fun d hd => by rw [List.getElem?_eq_getElem (by omega)] at hd; cases hd; exact e2⟩
  let f : Nat → Value := fun i => if hin : i < n then (hg i hin).choose else .nilIface
  have hf : ∀ i (hin : i < n), aload E heap (aadd a i) = some (f i) ∧ ∀ d, l[i]? = some d → DRep w d (f i) := fun i hin => by
    have := (hg i hin).choose_spec
    simp only [f, dif_pos hin]
    exact this
  refine ⟨(List.range n).map f, ?_, DRepL.of (by simp [hn]) fun i d v e1 e2 => ?_⟩
  · obtain ⟨b, o, _ | k⟩ := a
    · simp only [aloadN]
      exact old_list n o f fun i hin => (hf i hin).1
    · obtain ⟨blk, hb⟩ := hr.ex b hi
      simp only [aloadN, hb, Option.bind_some]
      have hlen : o + n ≤ blk.cells.length ∨ n = 0 := by
        rcases Nat.eq_zero_or_pos n with h0 | h0
        · exact .inr h0
        · left
          have := (hf (n - 1) (by omega)).1
          simp only [aload, aadd, hb, Option.bind_some, lget_eq] at this
          have hlt : o + (n - 1) < blk.cells.length := by
            rcases Nat.lt_or_ge (o + (n - 1)) blk.cells.length with h' | h'
            · exact h'
            · rw [List.getElem?_eq_none h'] at this; cases this
          omega
      rcases hlen with hlen | rfl
      · rw [ltake_eq _ _ (by simp; omega)]
        congr 1
        refine range_eq _ _ _ (by simp; omega) fun i hin => ?_
        have := (hf i hin).1
        simp only [aload, aadd, hb, Option.bind_some, lget_eq] at this
        rw [List.getElem?_drop]
        exact this
      · cases List.drop o blk.cells <;> rfl
  · rw [List.getElem?_take] at e1
    split at e1
    · rename_i hin
      simp only [List.getElem?_map, List.getElem?_range hin, Option.map_some, Option.some.injEq] at e2
      subst e2
      exact (hf i hin).2 d e1
    · cases e1
/-- a part of a block's cells -/
theorem aloadN_blk {b k n : Nat} {blk : Blk} {sp : Nat} (hb : hget heap b = some blk) (hn : k + n ≤ blk.cells.length) : aloadN E heap ⟨b, k, some sp⟩ n = some ((blk.cells.drop k).take n) := by
  simp only [aloadN, hb, Option.bind_some]
  exact ltake_eq _ _ (by simp; omega)
theorem aload_blk {b k : Nat} {blk : Blk} {sp : Nat} (hb : hget heap b = some blk) : aload E heap ⟨b, k, some sp⟩ = blk.cells[k]? := by
  simp only [aload, hb, Option.bind_some, lget_eq]
/-- the memory of a view holds this memory's blocks -/
def LdX (heap : Heap) (w w' : VW) (fz : List Nat) : Prop := ∀ o ∈ fz, ∀ b, w.μ o = some b → ∀ (k sp : Nat) (blk : Blk), hget heap b = some blk → w'.ld ⟨b, k, some sp⟩ = blk.cells[k]?
theorem DRepA.ofL {b : Nat} {blk : Blk} {l : List D} {sp : Nat} (hr : ∀ k sp, w.ld ⟨b, k, some sp⟩ = blk.cells[k]?) (h : DRepL w l blk.cells) (k : Nat) : DRepA w (l.drop k) ⟨b, k, some sp⟩ := DRepA.of fun i d e => by
  rw [List.getElem?_drop] at e
  obtain ⟨v, e1, e2⟩ := h.get _ d e
  refine ⟨v, ?_, e2⟩
  show w.ld ⟨b, k + i, some sp⟩ = some v
  rw [hr]; exact e1
theorem vev_ok (hf : FR w fr frI) {x : Operand} {v : V} (h : vev fr x = some v) : ∃ vI, ev frI x = some vI ∧ VRep w v vI := by
  cases x with
  | tmp t => exact hf t v h
  | const c =>
    simp only [vev] at h
    split at h
    · rename_i hc; cases h; exact ⟨c, rfl, by simp only [VRep]; exact ⟨by trivial, hc⟩⟩
    · cases h
  | global g => simp only [vev, Option.some.injEq] at h; subst h; exact ⟨_, rfl, by simp only [VRep]; exact ⟨by trivial, rfl⟩⟩
  | func f => simp only [vev, Option.some.injEq] at h; subst h; exact ⟨_, rfl, by simp only [VRep]; exact ⟨by trivial, rfl⟩⟩
theorem vevs_ok (hf : FR w fr frI) : ∀ {xs : List Operand} {vs : List V}, vevs fr xs = some vs → ∃ vI, evs frI xs = some vI ∧ VRepL w vs vI
  | [], vs, h => by simp only [vevs, Option.some.injEq] at h; subst h; exact ⟨[], rfl, by simp only [VRepL]⟩
  | x :: r, vs, h => by
    simp only [vevs, Option.bind_eq_some_iff, Option.some.injEq] at h
    obtain ⟨v, h1, vs', h2, rfl⟩ := h
    obtain ⟨u, a1, a2⟩ := vev_ok hf h1
    obtain ⟨us, b1, b2⟩ := vevs_ok hf h2
    exact ⟨u :: us, by simp [evs, a1, b1], by simp only [VRepL]; exact ⟨u, us, rfl, a2, b2⟩⟩
theorem vevO_ok (hf : FR w fr frI) {x : Option Operand} {v : Option Value} (h : vevO fr x = some v) : evO frI x = some v := by
  cases x with
  | none => simp only [vevO, Option.some.injEq] at h; subst h; rfl
  | some x =>
    simp only [vevO, Option.bind_eq_some_iff] at h
    obtain ⟨u, h1, h2⟩ := h
    obtain ⟨uI, a1, a2⟩ := vev_ok hf h1
    split at h2
    · cases h2
      simp only [VRep] at a2
      simp [evO, a1, a2.1]
    · cases h2
def PartsR (w : VW) : List (Nat × Nat × V) → List (Nat × Nat × Value) → Prop
  | [], q => q = []
  | (o, n, v) :: r, q => ∃ vI q', q = (o, n, vI) :: q' ∧ VRep w v vI ∧ PartsR w r q'
theorem vevParts_ok (hf : FR w fr frI) : ∀ {xs : List (Nat × Nat × Operand)} {vs : List (Nat × Nat × V)}, vevParts fr xs = some vs → ∃ vI, evParts frI xs = some vI ∧ PartsR w vs vI
  | [], vs, h => by simp only [vevParts, Option.some.injEq] at h; subst h; exact ⟨[], rfl, rfl⟩
  | (o, n, x) :: r, vs, h => by
    simp only [vevParts, Option.bind_eq_some_iff, Option.some.injEq] at h
    obtain ⟨v, h1, vs', h2, rfl⟩ := h
    obtain ⟨u, a1, a2⟩ := vev_ok hf h1
    obtain ⟨us, b1, b2⟩ := vevParts_ok hf h2
    exact ⟨(o, n, u) :: us, by simp [evParts, a1, b1], u, us, rfl, a2, b2⟩
theorem putL_ok : ∀ {l : List V} {k : Nat} {cs r : List V} {ls vs : List Value}, putL l k cs = some r → VRepL w l ls → VRepL w cs vs → ∃ rs, lput ls k vs = some rs ∧ VRepL w r rs
  | l, k, [], r, ls, vs, h, hl, hc => by
    simp only [VRepL] at hc
    subst hc
    have : r = l := by cases l <;> cases k <;> simp [putL] at h <;> first | exact h | exact h.symm
    subst this
    exact ⟨ls, by cases ls <;> cases k <;> rfl, hl⟩
  | [], k, c :: cs, r, ls, vs, h, hl, hc => by cases k <;> simp [putL] at h
  | x :: l, 0, c :: cs, r, ls, vs, h, hl, hc => by
    simp only [putL, Option.map_eq_some_iff] at h
    obtain ⟨r', h1, rfl⟩ := h
    simp only [VRepL] at hl hc
    obtain ⟨v, ls', rfl, a1, a2⟩ := hl
    obtain ⟨u, vs', rfl, b1, b2⟩ := hc
    obtain ⟨rs, c1, c2⟩ := putL_ok h1 a2 b2
    exact ⟨u :: rs, by simp [lput, c1], by simp only [VRepL]; exact ⟨u, rs, rfl, b1, c2⟩⟩
  | x :: l, k + 1, c :: cs, r, ls, vs, h, hl, hc => by
    simp only [putL, Option.map_eq_some_iff] at h
    obtain ⟨r', h1, rfl⟩ := h
    simp only [VRepL] at hl
    obtain ⟨v, ls', rfl, a1, a2⟩ := hl
    obtain ⟨rs, c1, c2⟩ := putL_ok h1 a2 hc
    obtain ⟨u, vs', rfl, b1, b2⟩ := (by simpa only [VRepL] using hc : ∃ v vs', vs = v :: vs' ∧ VRep w c v ∧ VRepL w cs vs')
    exact ⟨v :: rs, by simp [lput, c1], by simp only [VRepL]; exact ⟨v, rs, rfl, a1, c2⟩⟩
theorem putD_ok : ∀ {l : List D} {k : Nat} {cs r : List D} {ls vs : List Value}, putL l k cs = some r → DRepL w l ls → DRepL w cs vs → ∃ rs, lput ls k vs = some rs ∧ DRepL w r rs
  | l, k, [], r, ls, vs, h, hl, hc => by
    simp only [DRepL] at hc
    subst hc
    have : r = l := by cases l <;> cases k <;> simp [putL] at h <;> first | exact h | exact h.symm
    subst this
    exact ⟨ls, by cases ls <;> cases k <;> rfl, hl⟩
  | [], k, c :: cs, r, ls, vs, h, hl, hc => by cases k <;> simp [putL] at h
  | x :: l, 0, c :: cs, r, ls, vs, h, hl, hc => by
    simp only [putL, Option.map_eq_some_iff] at h
    obtain ⟨r', h1, rfl⟩ := h
    simp only [DRepL] at hl hc
    obtain ⟨v, ls', rfl, a1, a2⟩ := hl
    obtain ⟨u, vs', rfl, b1, b2⟩ := hc
    obtain ⟨rs, c1, c2⟩ := putD_ok h1 a2 b2
    exact ⟨u :: rs, by simp [lput, c1], by simp only [DRepL]; exact ⟨u, rs, rfl, b1, c2⟩⟩
  | x :: l, k + 1, c :: cs, r, ls, vs, h, hl, hc => by
    simp only [putL, Option.map_eq_some_iff] at h
    obtain ⟨r', h1, rfl⟩ := h
    simp only [DRepL] at hl
    obtain ⟨v, ls', rfl, a1, a2⟩ := hl
    obtain ⟨rs, c1, c2⟩ := putD_ok h1 a2 hc
    obtain ⟨u, vs', rfl, b1, b2⟩ := (by simpa only [DRepL] using hc : ∃ v vs', vs = v :: vs' ∧ DRep w c v ∧ DRepL w cs vs')
    exact ⟨v :: rs, by simp [lput, c1], by simp only [DRepL]; exact ⟨v, rs, rfl, a1, c2⟩⟩
theorem vfill_ok : ∀ {ps : List (Nat × Nat × V)} {qs : List (Nat × Nat × Value)} {l r : List V} {ls : List Value}, vfill l ps = some r → VRepL w l ls → PartsR w ps qs → ∃ rs, fillA ls qs = some rs ∧ VRepL w r rs
  | [], qs, l, r, ls, h, hl, hp => by
    simp only [PartsR] at hp; subst hp
    simp only [vfill, Option.some.injEq] at h; subst h
    exact ⟨ls, rfl, hl⟩
  | (o, n, v) :: ps, qs, l, r, ls, h, hl, hp => by
    simp only [PartsR] at hp
    obtain ⟨vI, q', rfl, h1, h2⟩ := hp
    simp only [vfill, Option.bind_eq_some_iff] at h
    obtain ⟨cs, hc, h⟩ := h
    split at h
    case isFalse => cases h
    rename_i hcond
    simp only [Bool.and_eq_true] at hcond
    simp only [Option.bind_eq_some_iff] at h
    obtain ⟨l', hl', h⟩ := h
    obtain ⟨c1, c2⟩ := vcells_rep h1 hc
    obtain ⟨rs, d1, d2⟩ := putL_ok hl' hl c1
    obtain ⟨rs', e1, e2⟩ := vfill_ok h d2 h2
    refine ⟨rs', ?_, e2⟩
    simp only [fillA]
    rw [c1.length, hl.length, if_pos (by rw [hcond.1, hcond.2]; rfl), d1]
    exact e1

/-! ### what is finished -/
/-- the memory in which the objects of fz are finished -/
def Fin (w w' : VW) (fz : List Nat) : Prop := ∀ o ∈ fz, ∀ b, w.μ o = some b → w'.F b
theorem toD_ok (hr : HR E H heap w) (hle : VW.le w w') {v : V} {vI : Value} {d : D} (h : VRep w v vI) (ht : toD H v = some d) (hf : Fin w w' (fzV v)) (hld : LdX heap w w' (fzV v)) : DRep w' d vI ∧ okD d = true := by
  cases v with
  | sc x =>
    simp only [toD, Option.some.injEq] at ht; subst ht
    simp only [VRep] at h
    exact ⟨by simp only [DRep]; exact h, rfl⟩
  | sl s n l =>
    simp only [toD] at ht
    split at ht
    · rename_i ho; cases ht; simp only [VRep] at h; exact ⟨h.mono hle, ho⟩
    · cases ht
  | slk s n c l =>
    simp only [toD] at ht
    split at ht
    · rename_i hs
      have hs' : s = 0 ∨ s = 3 := by
        rw [Bool.or_eq_true, nbeq, nbeq] at hs; exact hs
      cases ht
      simp only [VRep] at h
      obtain ⟨h1, h2, h3⟩ := h
      refine ⟨?_, by rcases hs' with rfl | rfl <;> rfl⟩
      simp only [DRep]
      rcases h3 with ⟨a, rfl, i, r⟩ | ⟨k1, k2, k3, k4, rfl⟩
      · left
        refine ⟨a, c, rfl, hle.inF i, ?_, r.mono hle i, fun e => by omega⟩
        unfold capOK; rw [knownCap_eq, if_pos h1]; exact h2
      · subst k2 k4; exact .inr ⟨k1, rfl, rfl, .inl rfl⟩
    · cases ht
  | ref o k n c =>
    simp only [toD] at ht
    split at ht
    case h_2 => cases ht
    rename_i t e g z l ho
    split at ht
    case isFalse => cases ht
    rename_i hle2
    cases ht
    simp only [VRep] at h
    obtain ⟨h1, h2, b', rfl, h3⟩ := h
    obtain ⟨b, blk, m1, m2, m3⟩ := hr.obj o _ ho rfl
    have := h3 b m1
    subst this
    have hF : w'.F b' := hf o (by simp [fzV]) b' m1
    refine ⟨?_, okD_sl.2 (.inl (by omega))⟩
    simp only [DRep]
    left
    refine ⟨_, c, rfl, hF, h2, ?_, fun e => by cases e⟩
    have r := (m3.2.2.2).mono hle
    have := (DRepA.ofL (sp := 0) (fun k sp => hld o (by simp [fzV]) b' m1 k sp blk m2) r k).part 0 (n * e)
    simpa [aadd] using this
  | gr s o n =>
    simp only [toD] at ht
    split at ht
    case h_2 => cases ht
    rename_i t e z l ho
    split at ht
    case isFalse => cases ht
    rename_i hc
    obtain ⟨hl, hs0, hs1, he⟩ := hc
    cases ht
    simp only [VRep] at h
    obtain ⟨h1, h2⟩ := h
    refine ⟨?_, okD_sl.2 (.inl hs1)⟩
    simp only [DRep]
    rcases h2 with ⟨rfl, rfl | ⟨hs2, a, c, rfl, i⟩⟩ | ⟨hn, b', rfl, h3⟩
    · right
      refine ⟨hs0, rfl, ?_, .inl rfl⟩
      rw [Nat.zero_mul] at hl
      exact List.eq_nil_of_length_eq_zero hl
    · left
      rw [Nat.zero_mul] at hl
      have := List.eq_nil_of_length_eq_zero hl
      subst this
      exact ⟨a, c, rfl, hle.inF i, by unfold capOK; exact Nat.zero_le _, by simp only [DRepA], fun e => absurd e hs2⟩
    · left
      have hnn : (Obj.gro t e z l).none = false := by
        cases l with
        | nil =>
          exfalso
          rw [List.length_nil] at hl
          rcases Nat.mul_eq_zero.1 hl.symm with hl | hl
          · exact hn hl
          · exact he hl
        | cons => rfl
      obtain ⟨b, blk, m1, m2, m3⟩ := hr.obj o _ ho hnn
      have := h3 b m1
      subst this
      have hF : w'.F b' := hf o (by simp [fzV]) b' m1
      refine ⟨_, _, rfl, hF, ?_, ?_, fun _ => hn⟩
      · unfold capOK; rw [knownCap_eq, if_neg (by omega)]; omega
      · have r := (m3.2.2.2).mono hle
        simpa using DRepA.ofL (sp := 0) (fun k sp => hld o (by simp [fzV]) b' m1 k sp blk m2) r 0
  | _ => simp [toD] at ht
end
end Go.Itp
/-
  The operations that write nothing: the interpreter's against these.
-/
namespace Go.Itp
set_option linter.unusedVariables false
set_option linter.constructorNameAsVariable false

/-- what an operation that writes nothing gives -/
def POut (heap : Heap) (w : VW) (n : Nat) (v : V) (ob : Option Obj) (fz : List Nat) (vI : Value) (bs : List Blk) : Prop :=
  match ob with
  | none => bs = [] ∧ fz = [] ∧ VRep w v vI
  | some o => o.none = false ∧ o.fz = false ∧ o.ok = true ∧ ∃ blk, bs = [blk] ∧ ∀ w', VW.le w w' → Fin w w' fz → LdX heap w w' fz → w.nx < w'.nx → w'.μ w.nx = some n → VRep w' v vI ∧ ORep w' o blk
section
variable {E : Env} {H : VHp} {heap : Heap} {w : VW} {fr : VFr} {frI : Fr} {n p : Nat} {v : V} {ob : Option Obj} {fz : List Nat}

theorem scOK_str (b : ByteArray) : scOK (.string b) = true := rfl
theorem binA_sc {op : BinOp} {a b r : Value} (h : binA op a b = some r) : scOK r = true := by
  unfold binA at h
  split at h
  · split at h
    · split at h
      · cases h
      · cases h; rfl
    · split at h
      · cases h
      · cases h; rfl
    · split at h
      case isFalse => cases h
      split at h <;> first | (cases h; rfl) | (split at h; cases h; first | (cases h; rfl) | skip) | cases h
      all_goals (cases h; rfl)
  · split at h <;> first | (cases h; rfl) | (split at h; cases h; rfl; cases h) | cases h
  · cases h
theorem unA_sc {op : UnOp} {a r : Value} (h : unA op a = some r) : scOK r = true := by
  unfold unA at h
  split at h <;> first | (cases h; rfl) | cases h
theorem VRep.scv {x v : Value} (h : VRep w (.sc x) v) : v = x := by simp only [VRep] at h; exact h.1
theorem VRep.mksc {x : Value} (h : scOK x = true) : VRep w (.sc x) x := by simp only [VRep]; exact ⟨by trivial, h⟩
theorem VRep.ok {x v : Value} (h : VRep w (.sc x) v) : scOK x = true := by simp only [VRep] at h; exact h.2
theorem POut.pure {vI : Value} (h : VRep w v vI) : POut heap w n v none [] vI [] := ⟨rfl, rfl, h⟩
theorem vp_some {x : Option V} (h : vp x = some (v, ob, fz)) : x = some v ∧ ob = none ∧ fz = [] := by
  cases x with
  | none => cases h
  | some y => cases h; exact ⟨rfl, rfl, rfl⟩
abbrev Goal (E : Env) (heap : Heap) (w : VW) (frI : Fr) (n p : Nat) (op : AOp) (v : V) (ob : Option Obj) (fz : List Nat) : Prop :=
  ∃ vI bs, pstep E frI ⟨heap, n, p⟩ op = some (vI, bs) ∧ POut heap w n v ob fz vI bs
abbrev Hyp (E : Env) (H : VHp) (w : VW) (fr : VFr) (op : AOp) (v : V) (ob : Option Obj) (fz : List Nat) : Prop := vpstep E.old fr H w.nx op = some (v, ob, fz)

theorem vo_mov (hf : FR w fr frI) {x : Operand} (h : Hyp E H w fr (.mov x) v ob fz) : Goal E heap w frI n p (.mov x) v ob fz := by
  simp only [Hyp, vpstep] at h
  obtain ⟨h0, rfl, rfl⟩ := vp_some h; replace h := h0
  obtain ⟨vI, a, b⟩ := vev_ok hf h
  exact ⟨vI, [], by simp [pstep, a], .pure b⟩
theorem vo_pick (hf : FR w fr frI) {c x y : Operand} (h : Hyp E H w fr (.pick c x y) v ob fz) : Goal E heap w frI n p (.pick c x y) v ob fz := by
  simp only [Hyp, vpstep, Option.bind_eq_some_iff] at h
  obtain ⟨u, h1, h⟩ := h
  split at h
  case h_2 => cases h
  rename_i t
  obtain ⟨h0, rfl, rfl⟩ := vp_some h; replace h := h0
  obtain ⟨uI, a1, a2⟩ := vev_ok hf h1
  obtain ⟨vI, b1, b2⟩ := vev_ok hf h
  have := a2.scv
  subst this
  exact ⟨vI, [], by simp [pstep, a1, b1], .pure b2⟩
theorem vo_bin (hf : FR w fr frI) {op : BinOp} {x y : Operand} (h : Hyp E H w fr (.bin op x y) v ob fz) : Goal E heap w frI n p (.bin op x y) v ob fz := by
  simp only [Hyp, vpstep, Option.bind_eq_some_iff] at h
  obtain ⟨a, h1, b, h2, h⟩ := h
  split at h
  case h_2 => cases h
  obtain ⟨h0, rfl, rfl⟩ := vp_some h; replace h := h0
  simp only [Option.map_eq_some_iff] at h
  obtain ⟨r, hr, rfl⟩ := h
  obtain ⟨aI, a1, a2⟩ := vev_ok hf h1
  obtain ⟨bI, b1, b2⟩ := vev_ok hf h2
  rw [a2.scv] at a1
  rw [b2.scv] at b1
  exact ⟨r, [], by simp [pstep, a1, b1, hr], .pure (.mksc (binA_sc hr))⟩
theorem vo_eqB (hf : FR w fr frI) {g : Bool} {x y : Operand} (h : Hyp E H w fr (.eqB g x y) v ob fz) : Goal E heap w frI n p (.eqB g x y) v ob fz := by
  simp only [Hyp, vpstep, Option.bind_eq_some_iff] at h
  obtain ⟨a, h1, b, h2, h⟩ := h
  split at h
  case h_2 => cases h
  cases h
  obtain ⟨aI, a1, a2⟩ := vev_ok hf h1
  obtain ⟨bI, b1, b2⟩ := vev_ok hf h2
  rw [a2.scv] at a1
  rw [b2.scv] at b1
  exact ⟨_, [], by simp [pstep, a1, b1], .pure (.mksc rfl)⟩
theorem vo_un (hf : FR w fr frI) {op : UnOp} {x : Operand} (h : Hyp E H w fr (.un op x) v ob fz) : Goal E heap w frI n p (.un op x) v ob fz := by
  simp only [Hyp, vpstep, Option.bind_eq_some_iff] at h
  obtain ⟨a, h1, h⟩ := h
  split at h
  case h_2 => cases h
  obtain ⟨h0, rfl, rfl⟩ := vp_some h; replace h := h0
  simp only [Option.map_eq_some_iff] at h
  obtain ⟨r, hr, rfl⟩ := h
  obtain ⟨aI, a1, a2⟩ := vev_ok hf h1
  rw [a2.scv] at a1
  exact ⟨r, [], by simp [pstep, a1, hr], .pure (.mksc (unA_sc hr))⟩
theorem vo_convI (hf : FR w fr frI) {k : IntKind} {x : Operand} (h : Hyp E H w fr (.convI k x) v ob fz) : Goal E heap w frI n p (.convI k x) v ob fz := by
  simp only [Hyp, vpstep, Option.bind_eq_some_iff] at h
  obtain ⟨a, h1, h⟩ := h
  split at h
  case h_2 => cases h
  cases h
  obtain ⟨aI, a1, a2⟩ := vev_ok hf h1
  rw [a2.scv] at a1
  exact ⟨_, [], by simp [pstep, a1], .pure (.mksc rfl)⟩
theorem vo_convS (hf : FR w fr frI) {x : Operand} (h : Hyp E H w fr (.convS x) v ob fz) : Goal E heap w frI n p (.convS x) v ob fz := by
  simp only [Hyp, vpstep, Option.bind_eq_some_iff] at h
  obtain ⟨a, h1, h⟩ := h
  split at h
  case h_2 => cases h
  cases h
  obtain ⟨aI, a1, a2⟩ := vev_ok hf h1
  rw [a2.scv] at a1
  exact ⟨_, [], by simp [pstep, a1], .pure (.mksc rfl)⟩
theorem vo_mm (hf : FR w fr frI) {g : Bool} {x y : Operand} (h : Hyp E H w fr (.mm g x y) v ob fz) : Goal E heap w frI n p (.mm g x y) v ob fz := by
  simp only [Hyp, vpstep, Option.bind_eq_some_iff] at h
  obtain ⟨a, h1, b, h2, h⟩ := h
  split at h
  case h_2 => cases h
  cases h
  obtain ⟨aI, a1, a2⟩ := vev_ok hf h1
  obtain ⟨bI, b1, b2⟩ := vev_ok hf h2
  rw [a2.scv] at a1
  rw [b2.scv] at b1
  exact ⟨_, [], by simp [pstep, a1, b1], .pure (.mksc rfl)⟩
theorem vo_slcS (hf : FR w fr frI) {x : Operand} {lo hi : Option Operand} (h : Hyp E H w fr (.slcS x lo hi) v ob fz) : Goal E heap w frI n p (.slcS x lo hi) v ob fz := by
  simp only [Hyp, vpstep, Option.bind_eq_some_iff] at h
  obtain ⟨a, h1, lo', h2, hi', h3, h⟩ := h
  split at h
  case h_2 => cases h
  simp only [Option.bind_eq_some_iff] at h
  obtain ⟨i, hi, j, hj, h⟩ := h
  cases h
  obtain ⟨aI, a1, a2⟩ := vev_ok hf h1
  rw [a2.scv] at a1
  exact ⟨_, [], by simp [pstep, a1, vevO_ok hf h2, vevO_ok hf h3, hi, hj], .pure (.mksc rfl)⟩
theorem vo_idxStr (hf : FR w fr frI) {x i : Operand} (h : Hyp E H w fr (.idxStr x i) v ob fz) : Goal E heap w frI n p (.idxStr x i) v ob fz := by
  simp only [Hyp, vpstep, Option.bind_eq_some_iff] at h
  obtain ⟨a, h1, b, h2, h⟩ := h
  split at h
  case h_2 => cases h
  simp only [Option.bind_eq_some_iff] at h
  obtain ⟨j, hj, c, hc, h⟩ := h
  cases h
  obtain ⟨aI, a1, a2⟩ := vev_ok hf h1
  obtain ⟨bI, b1, b2⟩ := vev_ok hf h2
  rw [a2.scv] at a1
  rw [b2.scv] at b1
  exact ⟨_, [], by simp [pstep, a1, b1, hj, hc], .pure (.mksc rfl)⟩
theorem vo_nilChk (hf : FR w fr frI) {x : Operand} (h : Hyp E H w fr (.nilChk x) v ob fz) : Goal E heap w frI n p (.nilChk x) v ob fz := by
  simp only [Hyp, vpstep, Option.bind_eq_some_iff] at h
  obtain ⟨a, h1, h⟩ := h
  obtain ⟨aI, a1, a2⟩ := vev_ok hf h1
  split at h <;> first | cases h | skip
  all_goals refine ⟨aI, [], ?_, .pure a2⟩
  all_goals simp only [VRep] at a2
  · obtain ⟨_, b, rfl, _⟩ := a2; simp [pstep, a1]
  · obtain ⟨b, rfl, _⟩ := a2; simp [pstep, a1]
  · obtain ⟨_, _, rfl, _⟩ := a2; simp [pstep, a1]
  · obtain ⟨b, rfl, _⟩ := a2; simp [pstep, a1]
  · obtain ⟨rfl, _⟩ := a2; simp [pstep, a1]
  · obtain ⟨rfl, _⟩ := a2; simp [pstep, a1]
  · obtain ⟨rfl, _⟩ := a2; simp [pstep, a1]
theorem isNilV_ok {k : Nat} {vI : Value} {b : Bool} (hv : VRep w v vI) (h : isNilV' k v = some b) : isNilA k vI = some b := by
  cases v with
  | sc x => rw [hv.scv]; exact h
  | sl s n l =>
    simp only [isNilV'] at h
    split at h
    case isFalse => cases h
    rename_i hk
    have := nbeq.1 hk; subst this
    simp only [VRep, DRep] at hv
    rcases hv with ⟨a, c, rfl, _, _, _, hs⟩ | ⟨h1, rfl, h3, h4⟩
    · have hb : b = false := by
        split at h
        · cases h; rfl
        · split at h
          · rename_i hs2
            cases h
            rw [← Bool.not_eq_true, nbeq]
            exact hs (nbeq.1 hs2)
          · split at h
            · cases h
            · cases h; rfl
      subst hb; rfl
    · rw [if_neg (by rw [nbeq]; exact h1)] at h
      split at h
      · rename_i hs2
        have hs2 := nbeq.1 hs2
        cases h
        rcases h4 with rfl | ⟨h5, _⟩
        · rfl
        · omega
      · cases h
  | slk s n c l =>
    simp only [isNilV'] at h
    split at h
    case isFalse => cases h
    rename_i hk
    have := nbeq.1 hk; subst this
    simp only [VRep] at hv
    rcases hv with ⟨_, _, ⟨a, rfl, _⟩ | ⟨h1, rfl, _⟩⟩
    · have hb : b = false := by
        split at h
        · cases h; rfl
        · split at h
          · cases h
          · cases h; rfl
      subst hb; rfl
    · rw [if_neg (by rw [nbeq]; exact h1)] at h
      cases h
  | ref o k' n c =>
    simp only [isNilV'] at h
    split at h
    case isFalse => cases h
    rename_i hk
    have := nbeq.1 hk; subst this
    cases h
    simp only [VRep] at hv
    obtain ⟨_, _, b, rfl, _⟩ := hv; rfl
  | gr s o n =>
    simp only [isNilV'] at h
    split at h
    case isFalse => cases h
    rename_i hk
    have := nbeq.1 hk; subst this
    simp only [VRep] at hv
    rcases hv with ⟨_, ⟨rfl, h2⟩ | ⟨hn, b', rfl, _⟩⟩
    · split at h
      · rename_i hs
        have hs := nbeq.1 hs
        cases h
        rcases h2 with rfl | ⟨h3, _⟩
        · rfl
        · exact absurd hs h3
      · cases h
    · have hb : b = false := by
        split at h
        · cases h
          rw [← Bool.not_eq_true, nbeq]; exact hn
        · split at h
          · cases h
          · cases h; rfl
      subst hb; rfl
  | ptr o k' =>
    simp only [isNilV'] at h
    split at h
    case isFalse => cases h
    rename_i hk
    have := nbeq.1 hk; subst this
    cases h
    simp only [VRep] at hv
    obtain ⟨_, b, rfl, _⟩ := hv; rfl
  | dp l o =>
    simp only [isNilV'] at h
    split at h
    case isFalse => cases h
    rename_i hk
    have := nbeq.1 hk; subst this
    cases h
    simp only [VRep] at hv
    obtain ⟨b, rfl, _⟩ := hv; rfl
  | fn f a b =>
    simp only [isNilV'] at h
    split at h
    case isFalse => cases h
    rename_i hk
    have := nbeq.1 hk; subst this
    cases h
    simp only [VRep] at hv
    obtain ⟨_, _, rfl, _⟩ := hv; rfl
  | _ => simp [isNilV'] at h
theorem vo_eqNil (hf : FR w fr frI) {k : Nat} {g : Bool} {x y : Operand} (h : Hyp E H w fr (.eqNil k g x y) v ob fz) : Goal E heap w frI n p (.eqNil k g x y) v ob fz := by
  simp only [Hyp, vpstep, Option.bind_eq_some_iff] at h
  obtain ⟨a, h1, b, h2, q, h3, r, h4, h⟩ := h
  split at h
  case isFalse => cases h
  rename_i hc
  cases h
  obtain ⟨aI, a1, a2⟩ := vev_ok hf h1
  obtain ⟨bI, b1, b2⟩ := vev_ok hf h2
  refine ⟨_, [], ?_, .pure (.mksc rfl)⟩
  simp only [pstep, a1, b1, isNilV_ok a2 h3, isNilV_ok b2 h4, Option.bind_some]
  rw [if_pos hc]
end
end Go.Itp
/-
  The operations that write nothing, with memory.
-/
namespace Go.Itp
set_option linter.unusedVariables false
set_option linter.constructorNameAsVariable false
section
variable {E : Env} {H : VHp} {heap : Heap} {w : VW} {fr : VFr} {frI : Fr} {n p : Nat} {v : V} {ob : Option Obj} {fz : List Nat}

theorem VRep.ptr_new {w' : VW} {o n : Nat} (h1 : o < w'.nx) (h2 : w'.μ o = some n) (k : Nat) : VRep w' (.ptr o k) (.pointer (some ⟨n, k, some 0⟩)) := by
  simp only [VRep]
  exact ⟨h1, n, rfl, fun b hb => by rw [h2] at hb; cases hb; rfl⟩
theorem VRep.ref_new {w' : VW} {o n : Nat} (h1 : o < w'.nx) (h2 : w'.μ o = some n) (k m c : Nat) (hc : capOK m c) : VRep w' (.ref o k m c) (.slice (some ⟨n, k, some 0⟩) m c) := by
  simp only [VRep]
  exact ⟨h1, hc, n, rfl, fun b hb => by rw [h2] at hb; cases hb; rfl⟩
theorem VRep.gr_new {w' : VW} {o n : Nat} (h1 : o < w'.nx) (h2 : w'.μ o = some n) (m : Nat) (hm : m ≠ 0) : VRep w' (.gr 2 o m) (.slice (some ⟨n, 0, some 0⟩) m (big + m)) := by
  simp only [VRep]
  exact ⟨h1, .inr ⟨hm, n, rfl, fun b hb => by rw [h2] at hb; cases hb; rfl⟩⟩
theorem okL_sc (z : List Value) : okL (scD z) = true := by simp [okL, scD, List.all_eq_true, okD]
theorem okL_bytes (l : List UInt8) : okL (l.map fun b => .sc (.int .u8 b.toNat)) = true := by simp [okL, List.all_eq_true, okD]
theorem vo_alloc {t : TypeId} {z : List (Nat × Value)} (h : Hyp E H w fr (.alloc t z) v ob fz) : Goal E heap w frI n p (.alloc t z) v ob fz := by
  simp only [Hyp, vpstep] at h
  split at h
  case isFalse => cases h
  rename_i hz
  cases h
  exact ⟨_, _, rfl, rfl, rfl, rfl, _, rfl, fun w' h1 h2 h3 h4 h5 => ⟨.ptr_new h4 h5 0, rfl, rfl, rfl, .sc _ hz⟩⟩
theorem vo_box (hf : FR w fr frI) {t : TypeId} {x : Operand} (h : Hyp E H w fr (.box t x) v ob fz) : Goal E heap w frI n p (.box t x) v ob fz := by
  simp only [Hyp, vpstep, Option.bind_eq_some_iff] at h
  obtain ⟨a, h1, cs, h2, h⟩ := h
  cases h
  obtain ⟨aI, a1, a2⟩ := vev_ok hf h1
  exact ⟨_, [⟨aI.cells.toList, 1, false, t⟩], by simp [pstep, a1], rfl, rfl, rfl, _, rfl, fun w' h3 h4 h5 h6 h7 => ⟨.ptr_new h6 h7 0, rfl, rfl, rfl, (vcells_rep a2 h2).1.mono h3⟩⟩
theorem vo_build (hf : FR w fr frI) {z : List Value} {ps : List (Nat × Nat × Operand)} (h : Hyp E H w fr (.build z ps) v ob fz) : Goal E heap w frI n p (.build z ps) v ob fz := by
  simp only [Hyp, vpstep] at h
  split at h
  case isFalse => cases h
  rename_i hz
  simp only [Option.bind_eq_some_iff] at h
  obtain ⟨vs, h1, h⟩ := h
  obtain ⟨h0, rfl, rfl⟩ := vp_some h; replace h := h0
  simp only [Option.map_eq_some_iff] at h
  obtain ⟨cs, h2, rfl⟩ := h
  obtain ⟨qs, a1, a2⟩ := vevParts_ok hf h1
  obtain ⟨rs, b1, b2⟩ := vfill_ok h2 (.sc z hz) a2
  refine ⟨.agg ⟨rs⟩, [], by simp [pstep, a1, b1], .pure ?_⟩
  simp only [VRep]
  exact ⟨rs, rfl, b2⟩
theorem toDL_ok {w' : VW} (hr : HR E H heap w) (hle : VW.le w w') : ∀ {l : List V} {vs : List Value} {ds : List D}, VRepL w l vs → toDL H l = some ds → Fin w w' (fzL l) → LdX heap w w' (fzL l) → DRepL w' ds vs ∧ okL ds = true
  | [], vs, ds, h, ht, _, _ => by
    simp only [toDL, Option.some.injEq] at ht; subst ht
    simp only [VRepL] at h; subst h
    exact ⟨by simp only [DRepL], rfl⟩
  | x :: r, vs, ds, h, ht, hf, hld => by
    simp only [toDL, Option.bind_eq_some_iff, Option.map_eq_some_iff] at ht
    obtain ⟨d, h1, ds', h2, rfl⟩ := ht
    simp only [VRepL] at h
    obtain ⟨u, us, rfl, k1, k2⟩ := h
    obtain ⟨a1, a2⟩ := toD_ok hr hle k1 h1 (fun o ho => hf o (by simp [fzL, ho])) (fun o ho => hld o (by simp [fzL, ho]))
    obtain ⟨b1, b2⟩ := toDL_ok hr hle k2 h2 (fun o ho => hf o (by simp [fzL, ho])) (fun o ho => hld o (by simp [fzL, ho]))
    exact ⟨by simp only [DRepL]; exact ⟨u, us, rfl, a1, b1⟩, by simp only [okL, List.all_cons, a2, Bool.true_and]; exact b2⟩
theorem toD_okD {v : V} {d : D} (h : toD H v = some d) : okD d = true := by
  cases v with
  | sc x => simp only [toD, Option.some.injEq] at h; subst h; rfl
  | sl s n l => simp only [toD] at h; split at h; · rename_i ho; cases h; exact ho
                cases h
  | slk s n c l =>
    simp only [toD] at h
    split at h
    · rename_i hs
      cases h
      rw [Bool.or_eq_true, nbeq, nbeq] at hs
      exact okD_sl.2 (.inl (by omega))
    · cases h
  | ref o k n c =>
    simp only [toD] at h
    split at h
    · split at h
      · cases h; rfl
      · cases h
    · cases h
  | gr s o n =>
    simp only [toD] at h
    split at h
    · split at h
      · rename_i hs; cases h; exact okD_sl.2 (.inl hs.2.2.1)
      · cases h
    · cases h
  | _ => simp [toD] at h
theorem toDL_okL : ∀ {l : List V} {ds : List D}, toDL H l = some ds → okL ds = true
  | [], ds, h => by simp only [toDL, Option.some.injEq] at h; subst h; rfl
  | x :: r, ds, h => by
    simp only [toDL, Option.bind_eq_some_iff, Option.map_eq_some_iff] at h
    obtain ⟨d, h1, ds', h2, rfl⟩ := h
    have := toDL_okL h2
    simp only [okL, List.all_cons, toD_okD h1, Bool.true_and]
    exact this
theorem putL_okL : ∀ {l : List D} {k : Nat} {cs r : List D}, putL l k cs = some r → okL l = true → okL cs = true → okL r = true
  | l, k, [], r, h, hl, hc => by
    have : r = l := by cases l <;> cases k <;> simp [putL] at h <;> first | exact h | exact h.symm
    subst this; exact hl
  | [], k, c :: cs, r, h, hl, hc => by cases k <;> simp [putL] at h
  | x :: l, 0, c :: cs, r, h, hl, hc => by
    simp only [putL, Option.map_eq_some_iff] at h
    obtain ⟨r', h1, rfl⟩ := h
    simp only [okL, List.all_cons, Bool.and_eq_true] at hl hc ⊢
    exact ⟨hc.1, putL_okL h1 hl.2 hc.2⟩
  | x :: l, k + 1, c :: cs, r, h, hl, hc => by
    simp only [putL, Option.map_eq_some_iff] at h
    obtain ⟨r', h1, rfl⟩ := h
    have := putL_okL h1 (by simp only [okL, List.all_cons, Bool.and_eq_true] at hl; exact hl.2) hc
    simp only [okL, List.all_cons, Bool.and_eq_true] at hl ⊢
    exact ⟨hl.1, this⟩
theorem toD0_ok {v : V} {vI : Value} {d : D} (h : VRep w v vI) (ht : toD0 v = some d) : DRep w d vI ∧ okD d = true := by
  cases v with
  | sc x =>
    simp only [toD0, Option.some.injEq] at ht; subst ht
    simp only [VRep] at h
    exact ⟨by simp only [DRep]; exact h, rfl⟩
  | sl s n l =>
    simp only [toD0] at ht
    split at ht
    · rename_i ho; cases ht; simp only [VRep] at h; exact ⟨h, ho⟩
    · cases ht
  | slk s n c l =>
    simp only [toD0] at ht
    split at ht
    · rename_i hs
      have hs' : s = 0 ∨ s = 3 := by
        rw [Bool.or_eq_true, nbeq, nbeq] at hs; exact hs
      cases ht
      simp only [VRep] at h
      obtain ⟨h1, h2, h3⟩ := h
      refine ⟨?_, by rcases hs' with rfl | rfl <;> rfl⟩
      simp only [DRep]
      rcases h3 with ⟨a, rfl, i, r⟩ | ⟨k1, k2, k3, k4, rfl⟩
      · left
        refine ⟨a, c, rfl, i, ?_, r, fun e => by omega⟩
        unfold capOK; rw [knownCap_eq, if_pos h1]; exact h2
      · subst k2 k4; exact .inr ⟨k1, rfl, rfl, .inl rfl⟩
    · cases ht
  | _ => simp [toD0] at ht
theorem toD0L_ok : ∀ {l : List V} {vs : List Value} {ds : List D}, VRepL w l vs → toD0L l = some ds → DRepL w ds vs ∧ okL ds = true
  | [], vs, ds, h, ht => by
    simp only [toD0L, Option.some.injEq] at ht; subst ht
    simp only [VRepL] at h; subst h
    exact ⟨by simp only [DRepL], rfl⟩
  | x :: r, vs, ds, h, ht => by
    simp only [toD0L, Option.bind_eq_some_iff, Option.map_eq_some_iff] at ht
    obtain ⟨d, h1, ds', h2, rfl⟩ := ht
    simp only [VRepL] at h
    obtain ⟨u, us, rfl, k1, k2⟩ := h
    obtain ⟨a1, a2⟩ := toD0_ok k1 h1
    obtain ⟨b1, b2⟩ := toD0L_ok k2 h2
    exact ⟨by simp only [DRepL]; exact ⟨u, us, rfl, a1, b1⟩, by simp only [okL, List.all_cons, a2, Bool.true_and]; exact b2⟩
theorem dfill_ok : ∀ {ps : List (Nat × Nat × V)} {qs : List (Nat × Nat × Value)} {l r : List D} {ls : List Value}, dfill l ps = some r → DRepL w l ls → okL l = true → PartsR w ps qs → ∃ rs, fillA ls qs = some rs ∧ DRepL w r rs ∧ okL r = true
  | [], qs, l, r, ls, h, hl, ho, hp => by
    simp only [PartsR] at hp; subst hp
    simp only [dfill, Option.some.injEq] at h; subst h
    exact ⟨ls, rfl, hl, ho⟩
  | (o, n, v) :: ps, qs, l, r, ls, h, hl, ho, hp => by
    simp only [PartsR] at hp
    obtain ⟨vI, q', rfl, h1, h2⟩ := hp
    simp only [dfill, Option.bind_eq_some_iff] at h
    obtain ⟨cs, hc, ds, hd, h⟩ := h
    split at h
    case isFalse => cases h
    rename_i hcond
    simp only [Bool.and_eq_true] at hcond
    simp only [Option.bind_eq_some_iff] at h
    obtain ⟨l', hl', h⟩ := h
    obtain ⟨c1, c2⟩ := vcells_rep h1 hc
    obtain ⟨d1, d2⟩ := toD0L_ok c1 hd
    obtain ⟨rs, e1, e2⟩ := putD_ok hl' hl d1
    obtain ⟨rs', f1, f2, f3⟩ := dfill_ok h e2 (putL_okL hl' ho d2) h2
    refine ⟨rs', ?_, f2, f3⟩
    simp only [fillA]
    rw [d1.length, hl.length, if_pos (by rw [hcond.1, hcond.2]; rfl), e1]
    exact f1
theorem capOK_self {n : Nat} (h : n < big) : capOK n n := by unfold capOK; rw [knownCap_eq, if_pos h]; exact Nat.le_refl _
theorem vo_mkRow (hf : FR w fr frI) {t : TypeId} {e k : Nat} {z : List Value} {ps : List (Nat × Nat × Operand)} (h : Hyp E H w fr (.mkRow t e k z ps) v ob fz) : Goal E heap w frI n p (.mkRow t e k z ps) v ob fz := by
  simp only [Hyp, vpstep] at h
  split at h
  case isFalse => cases h
  rename_i hz
  simp only [Bool.and_eq_true, Nat.blt_eq] at hz
  simp only [Option.bind_eq_some_iff] at h
  obtain ⟨vs, h1, h⟩ := h
  obtain ⟨qs, a1, a2⟩ := vevParts_ok hf h1
  split at h
  · rename_i cs h2
    cases h
    obtain ⟨rs, c1, c2, c3⟩ := dfill_ok h2 (.sc _ hz.1) (okL_sc _) a2
    exact ⟨.slice (some ⟨n, 0, some 0⟩) k k, [⟨rs, e, false, t⟩], by simp [pstep, a1, c1], rfl, rfl, c3, _, rfl, fun w' h3 h4 h5 h6 h7 => ⟨.ref_new h6 h7 0 k k (capOK_self hz.2), rfl, rfl, rfl, c2.mono h3⟩⟩
  · simp only [Option.bind_eq_some_iff] at h
    obtain ⟨cs, h2, h⟩ := h
    cases h
    obtain ⟨rs, c1, c2⟩ := vfill_ok h2 (.sc _ hz.1) a2
    exact ⟨.slice (some ⟨n, 0, some 0⟩) k k, [⟨rs, e, false, t⟩], by simp [pstep, a1, c1], rfl, rfl, rfl, _, rfl, fun w' h3 h4 h5 h6 h7 => ⟨.ref_new h6 h7 0 k k (capOK_self hz.2), rfl, rfl, rfl, c2.mono h3⟩⟩
theorem vload_ok (hr : HR E H heap w) {g : Option Nat} {u : V} {uI : Value} (hu : VRep w u uI) (h : vload E.old H g u = some v) : ∃ vI, (match uI with | .pointer (some a) => (loadG E heap a g) | _ => none) = some vI ∧ VRep w v vI := by
  cases u with
  | ptr o k =>
    simp only [VRep] at hu
    obtain ⟨h1, b', rfl, h2⟩ := hu
    simp only [vload] at h
    have hD : ∀ {l : List D} {blk : Blk}, hget heap b' = some blk → DRepL w l blk.cells → dload l k g = some v → ∃ vI, loadG E heap ⟨b', k, some 0⟩ g = some vI ∧ VRep w v vI := by
      intro l blk hb hl h
      cases g with
      | none =>
        simp only [dload, Option.map_eq_some_iff] at h
        obtain ⟨d, hd, rfl⟩ := h
        rw [lget_eq] at hd
        obtain ⟨vI, e1, e2⟩ := hl.get k d hd
        exact ⟨vI, by simp only [loadG]; rw [aload_blk hb]; exact e1, dv_rep e2⟩
      | some m =>
        simp only [dload] at h
        split at h
        · cases h
        rename_i h0
        rw [nbeq] at h0
        simp only [Option.map_eq_some_iff] at h
        obtain ⟨ds, hd, rfl⟩ := h
        obtain ⟨rfl, hm⟩ := ltake_some _ _ hd
        have hlen := hl.length
        rw [List.length_drop] at hm
        refine ⟨.agg ⟨(blk.cells.drop k).take m⟩, by simp only [loadG]; rw [aloadN_blk hb (by omega)]; rfl, ?_⟩
        simp only [VRep]
        exact ⟨_, rfl, dvL_rep (hl.part k m)⟩
    split at h
    · rename_i t e0 l ho
      obtain ⟨b, blk, m1, m2, m3⟩ := hr.obj o _ ho rfl
      have := h2 b m1
      subst this
      cases g with
      | none =>
        simp only [bload] at h
        rw [lget_eq] at h
        obtain ⟨vI, e1, e2⟩ := m3.2.2.2.get k v h
        exact ⟨vI, by simp only [loadG]; rw [aload_blk m2]; exact e1, e2⟩
      | some m =>
        simp only [bload, Option.map_eq_some_iff] at h
        obtain ⟨ds, hd, rfl⟩ := h
        obtain ⟨rfl, hm⟩ := ltake_some _ _ hd
        have hlen := m3.2.2.2.length
        rw [List.length_drop] at hm
        by_cases h0 : m = 0
        · subst h0
          refine ⟨.agg ⟨[]⟩, by simp only [loadG, aloadN, m2, Option.bind_some]; cases List.drop k blk.cells <;> rfl, ?_⟩
          simp only [List.take_zero, VRep, VRepL]
          exact ⟨[], rfl, rfl⟩
        · refine ⟨.agg ⟨(blk.cells.drop k).take m⟩, by simp only [loadG]; rw [aloadN_blk m2 (by omega)]; rfl, ?_⟩
          simp only [VRep]
          exact ⟨_, rfl, m3.2.2.2.part k m⟩
    · rename_i t e g' z l ho
      obtain ⟨b, blk, m1, m2, m3⟩ := hr.obj o _ ho rfl
      have := h2 b m1
      subst this
      exact hD m2 m3.2.2.2 h
    · rename_i t e z l ho
      by_cases hn : (Obj.gro t e z l).none = true
      · cases l with
        | cons => cases hn
        | nil =>
          cases g with
          | none => simp [dload, lget] at h
          | some m =>
            cases m with
            | succ m => simp [dload, ltake] at h
            | zero => simp [dload] at h
      · obtain ⟨b, blk, m1, m2, m3⟩ := hr.obj o _ ho (by simpa using hn)
        have := h2 b m1
        subst this
        exact hD m2 m3.2.2.2 h
    · cases h
  | dp l k =>
    simp only [VRep] at hu
    obtain ⟨a, rfl, i, hA⟩ := hu
    simp only [vload] at h
    cases g with
    | none =>
      simp only [dload, Option.map_eq_some_iff] at h
      obtain ⟨d, hd, rfl⟩ := h
      rw [lget_eq] at hd
      obtain ⟨vI, e1, e2⟩ := hA.get k d hd
      rw [hr.ld] at e1
      exact ⟨vI, e1, dv_rep e2⟩
    | some m =>
      simp only [dload] at h
      split at h
      · cases h
      simp only [Option.map_eq_some_iff] at h
      obtain ⟨ds, hd, rfl⟩ := h
      obtain ⟨rfl, hm⟩ := ltake_some _ _ hd
      obtain ⟨vs, e1, e2⟩ := aloadN_ok hr (inF_add (n := k) i) (hA.part k m) m (by rw [List.length_take]; omega)
      rw [List.take_take, Nat.min_self] at e2
      refine ⟨.agg ⟨vs⟩, by simp only [loadG, e1]; rfl, ?_⟩
      simp only [VRep]
      exact ⟨vs, rfl, dvL_rep e2⟩
  | sc x =>
    have hx := hu.ok
    have := hu.scv
    subst this
    cases uI with
    | pointer q =>
      cases q with
      | none => simp [vload] at h
      | some a =>
        simp only [vload] at h
        cases g with
        | some m => cases h
        | none =>
          simp only [Option.bind_eq_some_iff] at h
          obtain ⟨u, h1, h2⟩ := h
          split at h2
          case isFalse => cases h2
          rename_i hu2
          cases h2
          simp only [scOK, Option.isNone_iff_eq_none] at hx
          refine ⟨u, ?_, .mksc hu2⟩
          simp only [loadG, aload, hx]
          exact h1
    | _ => simp [vload] at h
  | _ => simp [vload] at h
theorem vo_load (hr : HR E H heap w) (hf : FR w fr frI) {g : Option Nat} {x : Operand} (h : Hyp E H w fr (.load g x) v ob fz) : Goal E heap w frI n p (.load g x) v ob fz := by
  simp only [Hyp, vpstep, Option.bind_eq_some_iff] at h
  obtain ⟨a, h1, h⟩ := h
  obtain ⟨h0, rfl, rfl⟩ := vp_some h; replace h := h0
  obtain ⟨aI, a1, a2⟩ := vev_ok hf h1
  obtain ⟨vI, b1, b2⟩ := vload_ok hr a2 h
  refine ⟨vI, [], ?_, .pure b2⟩
  simp only [pstep, a1, Option.bind_some]
  split at b1
  · simp only [b1]; rfl
  · cases b1
theorem vo_mkSlice (hf : FR w fr frI) {t : TypeId} {e b : Nat} {z : List Value} {x y : Operand} (h : Hyp E H w fr (.mkSlice t e b z x y) v ob fz) : Goal E heap w frI n p (.mkSlice t e b z x y) v ob fz := by
  simp only [Hyp, vpstep, Option.bind_eq_some_iff] at h
  obtain ⟨a, h1, c, h2, h⟩ := h
  split at h
  case h_2 => cases h
  split at h
  case isFalse => cases h
  rename_i hc
  cases h
  obtain ⟨aI, a1, a2⟩ := vev_ok hf h1
  obtain ⟨bI, b1, b2⟩ := vev_ok hf h2
  rw [a2.scv] at a1
  rw [b2.scv] at b1
  obtain ⟨h0, h3, h4, h5, h6⟩ := hc
  refine ⟨_, _, by simp only [pstep, a1, b1, Option.bind_some]; rw [if_pos ⟨h0, h3, h4, h5⟩], rfl, rfl, okL_sc _, _, rfl, fun w' k1 k2 k3 k4 k5 => ⟨.ref_new k4 k5 0 _ _ ?_, rfl, rfl, rfl, .sc _ h6⟩⟩
  unfold capOK
  have : room < big := by unfold room big; omega
  rw [knownCap_eq, if_pos (by omega)]
  omega
theorem vo_fldA (hf : FR w fr frI) {o : Nat} {x : Operand} (h : Hyp E H w fr (.fldA o x) v ob fz) : Goal E heap w frI n p (.fldA o x) v ob fz := by
  simp only [Hyp, vpstep, Option.bind_eq_some_iff] at h
  obtain ⟨a, h1, h⟩ := h
  obtain ⟨aI, a1, a2⟩ := vev_ok hf h1
  split at h <;> first | cases h | skip
  · simp only [VRep] at a2
    obtain ⟨k1, b', rfl, k2⟩ := a2
    refine ⟨_, [], by simp [pstep, a1] <;> rfl, .pure ?_⟩
    simp only [VRep]
    exact ⟨k1, b', rfl, k2⟩
  · simp only [VRep] at a2
    obtain ⟨c, rfl, i, k2⟩ := a2
    refine ⟨_, [], by simp [pstep, a1] <;> rfl, .pure ?_⟩
    simp only [VRep]
    exact ⟨c, by rw [aadd_aadd], i, k2⟩
  · have hx := a2.ok
    rw [a2.scv] at a1
    exact ⟨_, [], by simp [pstep, a1] <;> rfl, .pure (.mksc hx)⟩
theorem agg_part {l : List V} {vI : Value} (h : VRep w (.agg l) vI) : ∃ cs, vI = .agg ⟨cs⟩ ∧ VRepL w l cs := by simpa only [VRep] using h
theorem lget_rep {l : List V} {cs : List Value} (h : VRepL w l cs) {i : Nat} {v : V} (e : lget l i = some v) : ∃ vI, lget cs i = some vI ∧ VRep w v vI := by
  rw [lget_eq] at e
  obtain ⟨vI, a, b⟩ := h.get i v e
  exact ⟨vI, by rw [lget_eq]; exact a, b⟩
theorem ltake_rep {l r : List V} {cs : List Value} (h : VRepL w l cs) {i m : Nat} (e : ltake (l.drop i) m = some r) : ∃ rs, ltake (cs.drop i) m = some rs ∧ VRepL w r rs := by
  obtain ⟨rfl, hm⟩ := ltake_some _ _ e
  have hl := h.length
  rw [List.length_drop] at hm
  by_cases h0 : m = 0
  · subst h0
    exact ⟨[], by cases List.drop i cs <;> rfl, by simp only [List.take_zero, VRepL]⟩
  · exact ⟨_, ltake_eq _ _ (by rw [List.length_drop]; omega), h.part i m⟩
theorem vo_fldV (hf : FR w fr frI) {o : Nat} {g : Option Nat} {x : Operand} (h : Hyp E H w fr (.fldV o g x) v ob fz) : Goal E heap w frI n p (.fldV o g x) v ob fz := by
  simp only [Hyp, vpstep, Option.bind_eq_some_iff] at h
  obtain ⟨a, h1, h⟩ := h
  obtain ⟨aI, a1, a2⟩ := vev_ok hf h1
  split at h
  case h_2 => cases h
  obtain ⟨cs, rfl, c1⟩ := agg_part a2
  split at h
  · obtain ⟨h0, rfl, rfl⟩ := vp_some h; replace h := h0
    obtain ⟨vI, e1, e2⟩ := lget_rep c1 h
    exact ⟨vI, [], by simp [pstep, a1, e1], .pure e2⟩
  · obtain ⟨h0, rfl, rfl⟩ := vp_some h; replace h := h0
    simp only [Option.map_eq_some_iff] at h
    obtain ⟨r, hr, rfl⟩ := h
    obtain ⟨rs, e1, e2⟩ := ltake_rep c1 hr
    refine ⟨.agg ⟨rs⟩, [], by simp [pstep, a1, e1], .pure ?_⟩
    simp only [VRep]
    exact ⟨rs, rfl, e2⟩
theorem vo_idxV (hf : FR w fr frI) {m e : Nat} {g : Option Nat} {x i : Operand} (h : Hyp E H w fr (.idxV m e g x i) v ob fz) : Goal E heap w frI n p (.idxV m e g x i) v ob fz := by
  simp only [Hyp, vpstep, Option.bind_eq_some_iff] at h
  obtain ⟨a, h1, b, h2, h⟩ := h
  obtain ⟨aI, a1, a2⟩ := vev_ok hf h1
  obtain ⟨bI, b1, b2⟩ := vev_ok hf h2
  split at h
  case h_2 => cases h
  rw [b2.scv] at b1
  obtain ⟨cs, rfl, c1⟩ := agg_part a2
  simp only [Option.bind_eq_some_iff] at h
  obtain ⟨j, hj, h⟩ := h
  split at h
  · obtain ⟨h0, rfl, rfl⟩ := vp_some h; replace h := h0
    obtain ⟨vI, e1, e2⟩ := lget_rep c1 h
    exact ⟨vI, [], by simp [pstep, a1, b1, hj, e1], .pure e2⟩
  · obtain ⟨h0, rfl, rfl⟩ := vp_some h; replace h := h0
    simp only [Option.map_eq_some_iff] at h
    obtain ⟨r, hr, rfl⟩ := h
    obtain ⟨rs, e1, e2⟩ := ltake_rep c1 hr
    refine ⟨.agg ⟨rs⟩, [], by simp [pstep, a1, b1, hj, e1], .pure ?_⟩
    simp only [VRep]
    exact ⟨rs, rfl, e2⟩
theorem vo_ext (hf : FR w fr frI) {i : Nat} {x : Operand} (h : Hyp E H w fr (.ext x i) v ob fz) : Goal E heap w frI n p (.ext x i) v ob fz := by
  simp only [Hyp, vpstep, Option.bind_eq_some_iff] at h
  obtain ⟨a, h1, h⟩ := h
  obtain ⟨aI, a1, a2⟩ := vev_ok hf h1
  split at h
  case h_2 => cases h
  obtain ⟨h0, rfl, rfl⟩ := vp_some h; replace h := h0
  simp only [VRep] at a2
  obtain ⟨cs, rfl, c1⟩ := a2
  obtain ⟨vI, e1, e2⟩ := lget_rep c1 h
  exact ⟨vI, [], by simp [pstep, a1, e1], .pure e2⟩
theorem vo_mkFn (hf : FR w fr frI) {f : FuncId} {x y : List Operand} (h : Hyp E H w fr (.mkFn f x y) v ob fz) : Goal E heap w frI n p (.mkFn f x y) v ob fz := by
  simp only [Hyp, vpstep, Option.bind_eq_some_iff] at h
  obtain ⟨a, h1, b, h2, h⟩ := h
  cases h
  obtain ⟨as, a1, a2⟩ := vevs_ok hf h1
  obtain ⟨bs, b1, b2⟩ := vevs_ok hf h2
  refine ⟨.func (.func f) ⟨as⟩ ⟨bs⟩, [], by simp [pstep, a1, b1], .pure ?_⟩
  simp only [VRep]
  exact ⟨as, bs, rfl, a2, b2⟩
theorem vo_mkIf (hf : FR w fr frI) {t : TypeId} {x : Operand} (h : Hyp E H w fr (.mkIf t x) v ob fz) : Goal E heap w frI n p (.mkIf t x) v ob fz := by
  simp only [Hyp, vpstep, Option.bind_eq_some_iff] at h
  obtain ⟨a, h1, h⟩ := h
  obtain ⟨aI, a1, a2⟩ := vev_ok hf h1
  refine ⟨.iface t aI, [], by simp [pstep, a1], ?_⟩
  split at h
  · cases h
    have := a2.scv
    subst this
    exact .pure (.mksc a2.ok)
  · cases h
    refine .pure ?_
    simp only [VRep]
    exact ⟨aI, rfl, a2⟩
theorem lenV_ok {vI : Value} {m : Nat} (hv : VRep w v vI) (h : lenV v = some m) : lenA vI = some m ∧ (∀ b, vI ≠ .string b) := by
  cases v with
  | sl s k l =>
    simp only [lenV, Option.some.injEq] at h; subst h
    simp only [VRep, DRep] at hv
    rcases hv with ⟨a, c, rfl, _⟩ | ⟨_, rfl, _, rfl | ⟨_, _, _, _, rfl⟩⟩ <;> exact ⟨rfl, fun _ e => by cases e⟩
  | slk s k c l =>
    simp only [lenV, Option.some.injEq] at h; subst h
    simp only [VRep] at hv
    rcases hv with ⟨_, _, ⟨a, rfl, _⟩ | ⟨_, rfl, _, _, rfl⟩⟩ <;> exact ⟨rfl, fun _ e => by cases e⟩
  | ref o k i c =>
    simp only [lenV, Option.some.injEq] at h; subst h
    simp only [VRep] at hv
    obtain ⟨_, _, b, rfl, _⟩ := hv
    exact ⟨rfl, fun _ e => by cases e⟩
  | gr s o k =>
    simp only [lenV, Option.some.injEq] at h; subst h
    simp only [VRep] at hv
    rcases hv with ⟨_, ⟨rfl, rfl | ⟨_, a, c, rfl, _⟩⟩ | ⟨_, b, rfl, _⟩⟩ <;> exact ⟨rfl, fun _ e => by cases e⟩
  | sc x =>
    have hx := hv.ok
    have := hv.scv
    subst this
    cases vI with
    | slice a k c =>
      cases a with
      | none =>
        simp only [lenV, Option.some.injEq] at h; subst h
        simp only [scOK, Bool.and_eq_true, nbeq] at hx
        obtain ⟨rfl, _⟩ := hx
        exact ⟨rfl, fun _ e => by cases e⟩
      | some a => simp [lenV] at h
    | _ => simp [lenV] at h
  | _ => simp [lenV] at h
theorem lenS_ok {vI : Value} {m : Nat} (hv : VRep w v vI) (h : lenS v = some m) : lenA vI = some m := by
  unfold lenS at h
  split at h
  · cases h; rw [hv.scv]; rfl
  · exact (lenV_ok hv h).1
theorem vo_len (hf : FR w fr frI) {t : Bool} {x : Operand} (h : Hyp E H w fr (.len t x) v ob fz) : Goal E heap w frI n p (.len t x) v ob fz := by
  simp only [Hyp, vpstep, Option.bind_eq_some_iff] at h
  obtain ⟨a, h1, h⟩ := h
  obtain ⟨aI, a1, a2⟩ := vev_ok hf h1
  split at h
  · rename_i ht
    subst ht
    split at h
    case h_2 => cases h
    cases h
    rw [a2.scv] at a1
    exact ⟨_, [], by simp [pstep, a1], .pure (.mksc rfl)⟩
  · rename_i ht
    simp only [Bool.not_eq_true] at ht
    subst ht
    simp only [Option.bind_eq_some_iff] at h
    obtain ⟨m, hm, h⟩ := h
    cases h
    obtain ⟨k1, k2⟩ := lenV_ok a2 hm
    refine ⟨_, [], ?_, .pure (.mksc rfl)⟩
    simp only [pstep, a1, Option.bind_some]
    unfold lenA at k1
    split at k1
    · cases k1; rfl
    · cases k1; rfl
    · exact absurd rfl (k2 _)
    · cases k1
theorem bytes_rep : ∀ l : List UInt8, DRepL w (l.map fun b => .sc (.int .u8 b.toNat)) (cellsOfBytes l)
  | [] => by simp [cellsOfBytes, DRepL]
  | b :: r => by
    simp only [List.map_cons, DRepL, DRep, cellsOfBytes]
    exact ⟨_, _, rfl, ⟨by trivial, rfl⟩, bytes_rep r⟩
theorem vo_s2b (hf : FR w fr frI) {t : TypeId} {x : Operand} (h : Hyp E H w fr (.s2b t x) v ob fz) : Goal E heap w frI n p (.s2b t x) v ob fz := by
  simp only [Hyp, vpstep, Option.bind_eq_some_iff] at h
  obtain ⟨a, h1, h⟩ := h
  obtain ⟨aI, a1, a2⟩ := vev_ok hf h1
  split at h
  case h_2 => cases h
  split at h
  case isFalse => cases h
  rename_i b hb
  cases h
  rw [a2.scv] at a1
  refine ⟨_, _, by simp only [pstep, a1, Option.bind_some]; rw [if_pos hb], rfl, rfl, okL_bytes _, _, rfl, fun w' k1 k2 k3 k4 k5 => ⟨.ref_new k4 k5 0 _ _ ?_, rfl, rfl, rfl, ?_⟩⟩
  · unfold capOK
    rw [knownCap_eq, if_neg (by omega)]
    omega
  · exact bytes_rep _
theorem vo_cap (hf : FR w fr frI) {x : Operand} (h : Hyp E H w fr (.cap x) v ob fz) : Goal E heap w frI n p (.cap x) v ob fz := by
  simp only [Hyp, vpstep, Option.bind_eq_some_iff] at h
  obtain ⟨a, h1, h⟩ := h
  obtain ⟨aI, a1, a2⟩ := vev_ok hf h1
  split at h
  case h_3 => cases h
  · split at h
    case isFalse => cases h
    rename_i hc
    cases h
    simp only [VRep] at a2
    obtain ⟨_, _, b, rfl, _⟩ := a2
    exact ⟨_, [], by simp only [pstep, a1, Option.bind_some]; rw [if_pos hc], .pure (.mksc rfl)⟩
  · rename_i s k c l
    cases h
    simp only [VRep] at a2
    obtain ⟨hc, _, a2⟩ := a2
    have hc' : Nat.blt c big = true := by rw [Nat.blt_eq]; exact hc
    refine ⟨_, [], ?_, .pure (.mksc rfl)⟩
    simp only [pstep, a1, Option.bind_some]
    rcases a2 with ⟨a, rfl, _⟩ | ⟨_, rfl, rfl, _, rfl⟩
    · simp only; rw [if_pos hc']
    · simp only; rw [if_pos hc']
end
end Go.Itp
/-
  The operations that write nothing, with slices.
-/
namespace Go.Itp
set_option linter.unusedVariables false
set_option linter.constructorNameAsVariable false
section
variable {E : Env} {H : VHp} {heap : Heap} {w : VW} {fr : VFr} {frI : Fr} {n p : Nat} {v : V} {ob : Option Obj} {fz : List Nat}

theorem idxNat_lt {i : Value} {m j : Nat} (h : idxNat i m = some j) : j < m := by
  unfold idxNat at h
  split at h
  · split at h
    · rename_i hc; cases h; omega
    · cases h
  · cases h
theorem vo_idxS (hf : FR w fr frI) {e : Nat} {x i : Operand} (h : Hyp E H w fr (.idxS e x i) v ob fz) : Goal E heap w frI n p (.idxS e x i) v ob fz := by
  simp only [Hyp, vpstep, Option.bind_eq_some_iff] at h
  obtain ⟨a, h1, b, h2, h⟩ := h
  obtain ⟨aI, a1, a2⟩ := vev_ok hf h1
  obtain ⟨bI, b1, b2⟩ := vev_ok hf h2
  split at h
  case h_2 => cases h
  rw [b2.scv] at b1
  split at h
  case h_5 => cases h
  all_goals simp only [Option.bind_eq_some_iff] at h
  all_goals obtain ⟨j, hj, h⟩ := h
  all_goals have hlt := idxNat_lt hj
  all_goals cases h
  · simp only [VRep] at a2
    obtain ⟨k1, _, b', rfl, k2⟩ := a2
    refine ⟨_, [], by simp [pstep, a1, b1, hj] <;> rfl, .pure ?_⟩
    simp only [VRep]
    exact ⟨k1, b', rfl, k2⟩
  · simp only [VRep] at a2
    rcases a2 with ⟨k1, ⟨rfl, _⟩ | ⟨_, b', rfl, k2⟩⟩
    · omega
    refine ⟨_, [], by simp [pstep, a1, b1, hj] <;> rfl, .pure ?_⟩
    simp only [VRep]
    exact ⟨k1, b', by simp [aadd], k2⟩
  · simp only [VRep, DRep] at a2
    rcases a2 with ⟨c, d, rfl, k1, _, k2, _⟩ | ⟨_, rfl, _⟩
    · refine ⟨_, [], by simp [pstep, a1, b1, hj] <;> rfl, .pure ?_⟩
      simp only [VRep]
      exact ⟨c, rfl, k1, k2⟩
    · omega
  · simp only [VRep] at a2
    rcases a2 with ⟨_, _, ⟨c, rfl, k1, k2⟩ | ⟨_, rfl, _⟩⟩
    · refine ⟨_, [], by simp [pstep, a1, b1, hj] <;> rfl, .pure ?_⟩
      simp only [VRep]
      exact ⟨c, rfl, k1, k2⟩
    · omega
theorem vo_idxA (hf : FR w fr frI) {m e : Nat} {x i : Operand} (h : Hyp E H w fr (.idxA m e x i) v ob fz) : Goal E heap w frI n p (.idxA m e x i) v ob fz := by
  simp only [Hyp, vpstep, Option.bind_eq_some_iff] at h
  obtain ⟨a, h1, b, h2, h⟩ := h
  obtain ⟨aI, a1, a2⟩ := vev_ok hf h1
  obtain ⟨bI, b1, b2⟩ := vev_ok hf h2
  split at h
  case h_2 => cases h
  rw [b2.scv] at b1
  split at h
  case h_4 => cases h
  all_goals simp only [Option.bind_eq_some_iff] at h
  all_goals obtain ⟨j, hj, h⟩ := h
  all_goals cases h
  · simp only [VRep] at a2
    obtain ⟨k1, b', rfl, k2⟩ := a2
    refine ⟨_, [], by simp [pstep, a1, b1, hj] <;> rfl, .pure ?_⟩
    simp only [VRep]
    exact ⟨k1, b', rfl, k2⟩
  · simp only [VRep] at a2
    obtain ⟨c, rfl, k1, k2⟩ := a2
    refine ⟨_, [], by simp [pstep, a1, b1, hj] <;> rfl, .pure ?_⟩
    simp only [VRep]
    exact ⟨c, by rw [aadd_aadd], k1, k2⟩
  · have hx := a2.ok
    rw [a2.scv] at a1
    exact ⟨_, [], by simp [pstep, a1, b1, hj] <;> rfl, .pure (.mksc hx)⟩
theorem bndNat_mono {i : Option Value} {d m m' j : Nat} (h : bndNat i d m = some j) (hm : m ≤ m') (hd : d ≤ m) : bndNat i d m' = some j ∧ j ≤ m := by
  unfold bndNat at h ⊢
  split at h
  · cases h; exact ⟨rfl, hd⟩
  · split at h
    · rename_i hc
      cases h
      exact ⟨by rw [if_pos ⟨hc.1, by omega⟩], by omega⟩
    · cases h
  · cases h
theorem bndNat_le {i : Option Value} {d m j : Nat} (h : bndNat i d m = some j) (hd : d ≤ m) : j ≤ m := (bndNat_mono h (Nat.le_refl _) hd).2
theorem knownCap_lt {c : Nat} (h : c < big) : knownCap c = c := by rw [knownCap_eq, if_pos h]
theorem knownCap_ge {c : Nat} (h : ¬ c < big) : knownCap c = c - big := by rw [knownCap_eq, if_neg h]
theorem slcN_ok {m c : Nat} {lo hi mx : Option Value} {r : Nat × Nat × Nat × Bool} (h : slcN m c lo hi mx = some r) (hc : capOK m c) (a : Option Addr) (e : Nat) :
    slcA e a m c lo hi mx = some (.slice (if r.2.2.2 then a else a.map (aadd · (r.1 * e))) (r.2.1 - r.1) r.2.2.1) ∧ capOK (r.2.1 - r.1) r.2.2.1 ∧ (r.2.2.2 = true → r.1 = 0 ∨ r.2.1 = r.1 ∧ r.2.2.1 = 0) ∧ r.1 ≤ r.2.1 := by
  unfold capOK at hc ⊢
  unfold slcN at h
  unfold slcA
  cases mx with
  | none =>
    simp only [Option.bind_eq_some_iff] at h
    obtain ⟨j, hj, i, hi', h⟩ := h
    have hj2 := bndNat_le hj hc
    have hi2 := bndNat_le hi' (Nat.zero_le _)
    simp only [hj, hi', Option.bind_some]
    split at h
    · rename_i hb
      cases h
      rw [if_pos hb]
      rw [Nat.blt_eq] at hb
      rw [knownCap_lt hb] at hj2
      refine ⟨?_, ?_, ?_, hi2⟩
      · by_cases e1 : c = i
        · subst e1; simp [(nbeq (i := c) (j := c)).2 rfl]
        · have : Nat.beq c i = false := by rw [← Bool.not_eq_true, nbeq]; exact e1
          simp [e1, this]
      · simp only; rw [knownCap_lt (by omega)]; omega
      · intro ht; simp only at ht; have := nbeq.1 ht; right; simp only; omega
    · rename_i hb
      rw [if_neg hb]
      rw [Nat.blt_eq] at hb
      rw [knownCap_ge hb] at hj2
      split at h
      · rename_i hl
        cases h
        rw [if_pos hl]
        rw [Nat.blt_eq] at hl
        refine ⟨by simp, ?_, (fun ht => by cases ht), hi2⟩
        simp only; rw [knownCap_ge (by omega)]; omega
      · rename_i hl
        rw [if_neg hl]
        split at h
        · rename_i h0
          have h0 := nbeq.1 h0
          cases h
          subst h0
          refine ⟨by simp, ?_, fun _ => .inl rfl, Nat.zero_le _⟩
          simp only; rw [knownCap_ge hb]; omega
        · cases h
  | some mv =>
    simp only [Option.bind_eq_some_iff] at h
    obtain ⟨k, hk, h⟩ := h
    have hk2 := bndNat_le hk (Nat.zero_le _)
    simp only [hk, Option.bind_some]
    split at h
    case isFalse => cases h
    rename_i hb
    rw [if_pos hb]
    simp only [Bool.and_eq_true, Nat.blt_eq] at hb
    simp only [Option.bind_eq_some_iff] at h
    obtain ⟨j, hj, i, hi', h⟩ := h
    have hj2 : j ≤ k := by
      cases hi with
      | none => simp at hb
      | some hv =>
        unfold bndNat at hj
        split at hj
        · rename_i e; cases e
        · split at hj
          · rename_i hc2; cases hj; omega
          · cases hj
        · cases hj
    have hi2 := bndNat_le hi' (Nat.zero_le _)
    simp only [hj, hi', Option.bind_some]
    cases h
    refine ⟨?_, ?_, ?_, hi2⟩
    · by_cases e1 : k = i
      · subst e1; simp [(nbeq (i := k) (j := k)).2 rfl]
      · have : Nat.beq k i = false := by rw [← Bool.not_eq_true, nbeq]; exact e1
        simp [e1, this]
    · simp only; rw [knownCap_lt (by omega)]; omega
    · intro ht; simp only at ht; have := nbeq.1 ht; right; simp only; omega
theorem partD_nil (l : List D) (a b : Nat) (h : b ≤ a) : partD l a b = [] := by
  unfold partD
  rw [show b - a = 0 by omega]; simp
theorem DRepA.partD {l : List D} {a : Addr} (h : DRepA w l a) (i j : Nat) : DRepA w (partD l i j) (aadd a i) := h.part i (j - i)
theorem DRepA.nil (a : Addr) : DRepA w [] a := by simp only [DRepA]
theorem partD_empty (i j : Nat) : partD [] i j = [] := by simp [partD]
theorem vslc_ok {e : Nat} {lo hi mx : Option Value} {u : V} {uI : Value} (hu : VRep w u uI) (h : vslc e lo hi mx u = some v) : ∃ a m c vI, uI = .slice a m c ∧ slcA e a m c lo hi mx = some vI ∧ VRep w v vI := by
  cases u with
  | ref o k m c =>
    simp only [vslc, Option.map_eq_some_iff] at h
    obtain ⟨r, hr, rfl⟩ := h
    simp only [VRep] at hu
    obtain ⟨k1, k2, b', rfl, k3⟩ := hu
    obtain ⟨s1, s2, s3, s4⟩ := slcN_ok hr k2 (some ⟨b', k, some 0⟩) e
    refine ⟨_, _, _, _, rfl, s1, ?_⟩
    simp only [VRep]
    refine ⟨k1, s2, b', ?_, k3⟩
    split <;> rfl
  | gr s o m =>
    simp only [vslc] at h
    split at h
    · cases h
    rename_i hm
    rw [nbeq] at hm
    simp only [Option.map_eq_some_iff] at h
    obtain ⟨r, hr, rfl⟩ := h
    simp only [VRep] at hu
    rcases hu with ⟨k1, ⟨rfl, _⟩ | ⟨_, b', rfl, k3⟩⟩
    · exact absurd rfl hm
    have hc : capOK m (big + m) := by unfold capOK; rw [knownCap_ge (by omega)]; omega
    obtain ⟨s1, s2, s3, s4⟩ := slcN_ok hr hc (some ⟨b', 0, some 0⟩) e
    refine ⟨_, _, _, _, rfl, s1, ?_⟩
    simp only [VRep]
    refine ⟨k1, s2, b', ?_, k3⟩
    split
    · rfl
    · simp [aadd]
  | sl s m l =>
    simp only [vslc] at h
    split at h
    case isFalse => cases h
    rename_i hok
    rw [okD_sl] at hok
    simp only [VRep, DRep] at hu
    have hk : ∀ (s' : Nat), (if Nat.beq s 0 then 0 else 3 : Nat) = s' → s' ≠ 1 ∧ s' ≠ 2 ∧ (s ≠ 0 → s' ≠ 0) := by
      intro s' e
      subst e
      by_cases hs : s = 0
      · rw [if_pos (nbeq.2 hs)]; exact ⟨by omega, by omega, fun h => absurd hs h⟩
      · rw [if_neg (by rw [nbeq]; exact hs)]; exact ⟨by omega, by omega, fun _ => by omega⟩
    obtain ⟨hk1, hk2, hk3⟩ := hk _ rfl
    cases mx with
    | none =>
      simp only [Option.bind_eq_some_iff] at h
      obtain ⟨⟨i, j⟩, hr, h⟩ := h
      split at h
      case isFalse => cases h
      rename_i hc
      cases h
      simp only [slcP, Option.bind_eq_some_iff] at hr
      obtain ⟨j', hj, i', hi', hr⟩ := hr
      cases hr
      have hj2 := bndNat_le hj (Nat.le_refl _)
      have hi2 := bndNat_le hi' (Nat.zero_le _)
      rcases hu with ⟨a, c, rfl, k1, k2, k3, _⟩ | ⟨k1, rfl, rfl, rfl | ⟨k2, _⟩⟩
      · have hN : slcN m c lo hi none = some (i, j, (if i = 0 ∧ ¬ c < big ∧ ¬ (0 < c - big) then c else c - i), if c < big then Nat.beq c i else if i < c - big then false else true) := by
          unfold capOK at k2
          simp only [slcN, (bndNat_mono hj k2 (Nat.le_refl _)).1, hi', Option.bind_some]
          by_cases hb : c < big
          · rw [if_pos (by rw [Nat.blt_eq]; exact hb), if_pos hb, if_neg (by omega)]
          · rw [if_neg (by rw [Nat.blt_eq]; exact hb), if_neg hb]
            rw [knownCap_ge hb] at k2
            by_cases hl : i < c - big
            · rw [if_pos (by rw [Nat.blt_eq]; exact hl), if_pos hl, if_neg (by omega)]
            · rw [if_neg (by rw [Nat.blt_eq]; exact hl), if_neg hl]
              simp only [Bool.or_eq_true, Nat.blt_eq] at hc
              have h0 : i = 0 := by
                rcases hc with hc | hc
                · exact nbeq.1 hc
                · omega
              rw [if_pos (nbeq.2 h0), if_pos ⟨h0, hb, by omega⟩]
              rw [h0]
        obtain ⟨s1, s2, s3, s4⟩ := slcN_ok hN k2 (some a) e
        simp only at s1 s2 s3 s4
        refine ⟨_, _, _, _, rfl, s1, ?_⟩
        simp only [VRep, DRep]
        left
        generalize hfl : (if c < big then Nat.beq c i else if i < c - big then false else true) = fl at s3 s1 ⊢
        cases fl with
        | true =>
          refine ⟨a, _, rfl, k1, s2, ?_, fun e => absurd e hk2⟩
          rcases s3 rfl with h0 | ⟨h0, _⟩
          · subst h0; rw [Nat.zero_mul]; exact k3.partD 0 _
          · rw [partD_nil _ _ _ (by rw [h0]; exact Nat.le_refl _)]; exact .nil _
        | false =>
          exact ⟨aadd a (i * e), _, rfl, inF_add k1, s2, k3.partD _ _, fun e => absurd e hk2⟩
      · have hj0 : j = 0 := by omega
        have hi0 : i = 0 := by omega
        subst hj0 hi0
        refine ⟨none, 0, 0, .slice none 0 0, rfl, ?_, ?_⟩
        · have : knownCap 0 = 0 := rfl
          simp only [slcA, this, hj, hi', Option.bind_some]
          rfl
        · simp only [VRep, DRep]
          right
          exact ⟨hk3 k1, by simp, partD_empty _ _, .inl (by trivial)⟩
      · exfalso; omega
    | some mv =>
      simp only [Option.bind_eq_some_iff] at h
      obtain ⟨q, hq, h⟩ := h
      split at h
      case isFalse => cases h
      rename_i hb
      simp only [Option.bind_eq_some_iff] at h
      obtain ⟨j, hj, i, hi', h⟩ := h
      cases h
      rcases hu with ⟨a, c, rfl, k1, k2, k3, _⟩ | ⟨k1, rfl, rfl, rfl | ⟨k2, _⟩⟩
      · have hN : slcN m c lo hi (some mv) = some (i, j, q - i, Nat.beq q i) := by
          unfold capOK at k2
          simp only [slcN, (bndNat_mono hq k2 (Nat.zero_le _)).1, Option.bind_some]
          rw [if_pos hb]
          simp only [hj, hi', Option.bind_some]
        obtain ⟨s1, s2, s3, s4⟩ := slcN_ok hN k2 (some a) e
        simp only at s1 s2 s3 s4
        refine ⟨_, _, _, _, rfl, s1, ?_⟩
        simp only [Bool.and_eq_true, Nat.blt_eq] at hb
        have hcb : q - i < big := by omega
        simp only [VRep]
        unfold capOK at s2
        rw [knownCap_lt hcb] at s2
        refine ⟨hcb, s2, .inl ?_⟩
        generalize hfl : Nat.beq q i = fl at s3 s1 ⊢
        cases fl with
        | true =>
          refine ⟨a, rfl, k1, ?_⟩
          rcases s3 rfl with h0 | ⟨h0, _⟩
          · subst h0; rw [Nat.zero_mul]; exact k3.partD 0 _
          · rw [partD_nil _ _ _ (by rw [h0]; exact Nat.le_refl _)]; exact .nil _
        | false => exact ⟨aadd a (i * e), rfl, inF_add k1, k3.partD _ _⟩
      · have hq2 := bndNat_le hq (Nat.zero_le _)
        have hN : slcN 0 0 lo hi (some mv) = some (i, j, q - i, Nat.beq q i) := by
          have : knownCap 0 = 0 := rfl
          simp only [slcN, this, hq, Option.bind_some]
          rw [if_pos hb]
          simp only [hj, hi', Option.bind_some]
        obtain ⟨s1, s2, s3, s4⟩ := slcN_ok hN (Nat.zero_le _) none e
        simp only at s1 s2 s3 s4
        have hcb : q - i < big := by unfold big; omega
        unfold capOK at s2
        rw [knownCap_lt hcb] at s2
        refine ⟨none, 0, 0, _, rfl, s1, ?_⟩
        simp only [VRep]
        refine ⟨hcb, s2, .inr ⟨hk3 k1, by omega, by omega, partD_empty _ _, ?_⟩⟩
        have e1 : j - i = 0 := by omega
        have e2 : q - i = 0 := by omega
        rw [e1, e2]
        split <;> rfl
      · exfalso; omega
  | slk s m c l =>
    simp only [vslc] at h
    split at h
    case h_2 => cases h
    simp only [Option.map_eq_some_iff] at h
    obtain ⟨⟨i, j⟩, hr, rfl⟩ := h
    simp only [slcP, Option.bind_eq_some_iff] at hr
    obtain ⟨j', hj, i', hi', hr⟩ := hr
    cases hr
    have hj2 := bndNat_le hj (Nat.le_refl _)
    have hi2 := bndNat_le hi' (Nat.zero_le _)
    simp only [VRep] at hu
    obtain ⟨k1, k2, hu⟩ := hu
    have hN : slcN m c lo hi none = some (i, j, c - i, Nat.beq c i) := by
      simp only [slcN, knownCap_lt k1, (bndNat_mono hj k2 (Nat.le_refl _)).1, hi', Option.bind_some]
      rw [if_pos (by rw [Nat.blt_eq]; exact k1)]
    have hcap : capOK m c := by unfold capOK; rw [knownCap_lt k1]; exact k2
    rcases hu with ⟨a, rfl, q1, q2⟩ | ⟨q1, rfl, rfl, rfl, rfl⟩
    · obtain ⟨s1, s2, s3, s4⟩ := slcN_ok hN hcap (some a) e
      simp only at s1 s2 s3 s4
      refine ⟨_, _, _, _, rfl, s1, ?_⟩
      have hcb : c - i < big := by omega
      unfold capOK at s2
      rw [knownCap_lt hcb] at s2
      simp only [VRep]
      refine ⟨hcb, s2, .inl ?_⟩
      generalize hfl : Nat.beq c i = fl at s3 s1 ⊢
      cases fl with
      | true =>
        refine ⟨a, rfl, q1, ?_⟩
        rcases s3 rfl with h0 | ⟨h0, _⟩
        · subst h0; rw [Nat.zero_mul]; exact q2.partD 0 _
        · rw [partD_nil _ _ _ (by rw [h0]; exact Nat.le_refl _)]; exact .nil _
      | false => exact ⟨aadd a (i * e), rfl, inF_add q1, q2.partD _ _⟩
    · obtain ⟨s1, s2, s3, s4⟩ := slcN_ok hN hcap none e
      simp only at s1 s2 s3 s4
      refine ⟨none, 0, 0, _, rfl, s1, ?_⟩
      have hcb : 0 - i < big := by unfold big; omega
      unfold capOK at s2
      rw [knownCap_lt hcb] at s2
      simp only [VRep]
      refine ⟨hcb, s2, .inr ⟨q1, by omega, by omega, partD_empty _ _, ?_⟩⟩
      have e1 : j - i = 0 := by omega
      have e2 : 0 - i = 0 := by omega
      rw [e1, e2]
      split <;> rfl
  | sc x =>
    have hx := hu.ok
    have := hu.scv
    subst this
    cases uI with
    | slice a m c =>
      cases a with
      | some a => simp [vslc] at h
      | none =>
        simp only [scOK, Bool.and_eq_true, nbeq] at hx
        obtain ⟨rfl, rfl⟩ := hx
        have hk : knownCap 0 = 0 := rfl
        refine ⟨none, 0, 0, .slice none 0 0, rfl, ?_, ?_⟩
        · simp only [vslc] at h
          cases mx with
          | none =>
            simp only [Option.map_eq_some_iff, slcP, Option.bind_eq_some_iff] at h
            obtain ⟨_, ⟨j, hj, i, hi', _⟩, _⟩ := h
            have hj2 := bndNat_le hj (Nat.le_refl _)
            have hi2 := bndNat_le hi' (Nat.zero_le _)
            have hi0 : i = 0 := by omega
            have hj0 : j = 0 := by omega
            subst hi0 hj0
            simp only [slcA, hk, hj, hi', Option.bind_some]
            rfl
          | some mv =>
            simp only [Option.bind_eq_some_iff] at h
            obtain ⟨q, hq, h⟩ := h
            split at h
            case isFalse => cases h
            rename_i hhi
            simp only [Option.map_eq_some_iff, slcP, Option.bind_eq_some_iff] at h
            obtain ⟨_, ⟨j, hj, i, hi', _⟩, _⟩ := h
            have hq2 := bndNat_le hq (Nat.le_refl _)
            have hj2 := bndNat_le hj (Nat.le_refl _)
            have hi2 := bndNat_le hi' (Nat.zero_le _)
            have hi0 : i = 0 := by omega
            have hj0 : j = 0 := by omega
            have hq0 : q = 0 := by omega
            subst hi0 hj0 hq0
            simp only [slcA, hk, hq, Option.bind_some]
            rw [if_pos (by rw [hhi]; rfl)]
            simp only [hj, hi', Option.bind_some]
            rfl
        · simp only [vslc] at h
          have : v = .sc (.slice none 0 0) := by
            cases mx with
            | none => simp only [Option.map_eq_some_iff] at h; obtain ⟨_, _, rfl⟩ := h; rfl
            | some mv =>
              simp only [Option.bind_eq_some_iff] at h
              obtain ⟨q, hq, h⟩ := h
              split at h
              case isFalse => cases h
              simp only [Option.map_eq_some_iff] at h; obtain ⟨_, _, rfl⟩ := h; rfl
          subst this
          exact .mksc rfl
    | _ => simp [vslc] at h
  | _ => simp [vslc] at h
theorem vo_slc (hf : FR w fr frI) {e : Nat} {x : Operand} {lo hi mx : Option Operand} (h : Hyp E H w fr (.slc e x lo hi mx) v ob fz) : Goal E heap w frI n p (.slc e x lo hi mx) v ob fz := by
  simp only [Hyp, vpstep, Option.bind_eq_some_iff] at h
  obtain ⟨a, h1, lo', h2, hi', h3, mx', h4, h⟩ := h
  obtain ⟨h0, rfl, rfl⟩ := vp_some h; replace h := h0
  obtain ⟨aI, a1, a2⟩ := vev_ok hf h1
  obtain ⟨ad, m, c, vI, rfl, e1, e2⟩ := vslc_ok a2 h
  exact ⟨vI, [], by simp [pstep, a1, vevO_ok hf h2, vevO_ok hf h3, vevO_ok hf h4, e1], .pure e2⟩
theorem vo_slcA (hf : FR w fr frI) {m e : Nat} {x : Operand} {lo hi : Option Operand} (h : Hyp E H w fr (.slcA m e x lo hi) v ob fz) : Goal E heap w frI n p (.slcA m e x lo hi) v ob fz := by
  simp only [Hyp, vpstep, Option.bind_eq_some_iff] at h
  obtain ⟨a, h1, lo', h2, hi', h3, h⟩ := h
  obtain ⟨aI, a1, a2⟩ := vev_ok hf h1
  split at h
  case h_2 => cases h
  rename_i o k
  split at h
  case isFalse => cases h
  rename_i hb
  obtain ⟨h0, rfl, rfl⟩ := vp_some h; replace h := h0
  simp only [VRep] at a2
  obtain ⟨k1, b', rfl, k2⟩ := a2
  have hb' := hb
  rw [Nat.blt_eq] at hb'
  have hu : VRep w (.ref o k m m) (.slice (some ⟨b', k, some 0⟩) m m) := by
    simp only [VRep]
    exact ⟨k1, capOK_self hb', b', rfl, k2⟩
  obtain ⟨ad, m', c, vI, e0, e1, e2⟩ := vslc_ok hu h
  cases e0
  refine ⟨vI, [], ?_, .pure e2⟩
  simp only [pstep, a1, vevO_ok hf h2, vevO_ok hf h3, Option.bind_some]
  rw [if_pos hb, e1]
  rfl
end
end Go.Itp
/-
  The operations that write nothing, all of them.
-/
namespace Go.Itp
set_option linter.unusedVariables false
set_option linter.constructorNameAsVariable false
section
variable {E : Env} {H : VHp} {heap : Heap} {w : VW} {fr : VFr} {frI : Fr} {n p : Nat} {v : V} {ob : Option Obj} {fz : List Nat}

theorem toDL_len {H : VHp} : ∀ {l : List V} {ds : List D}, toDL H l = some ds → ds.length = l.length
  | [], ds, h => by simp only [toDL, Option.some.injEq] at h; subst h; rfl
  | x :: l, ds, h => by
    simp only [toDL, Option.bind_eq_some_iff, Option.map_eq_some_iff] at h
    obtain ⟨d, _, ds', h2, rfl⟩ := h
    simp [toDL_len h2]
theorem srcD_len {e m : Nat} {l : List D × List Nat} (h : srcD H e m v = some l) (hm : ∀ n, lenS v = some n → m ≤ n) : l.1.length = m * e := by
  unfold srcD at h
  split at h
  · split at h
    · rename_i hc
      cases h
      have := Nat.mul_le_mul_right e hc.2
      rw [List.length_take]; omega
    · cases h
  · split at h
    · rename_i hc
      cases h
      have := Nat.mul_le_mul_right e hc.2
      rw [List.length_take]; omega
    · cases h
  · split at h
    · split at h
      · cases h; rw [List.length_take, List.length_drop]; omega
      · cases h
    · split at h
      · cases h; rw [List.length_take, List.length_drop]; omega
      · cases h
    · split at h
      · simp only [Option.map_eq_some_iff] at h
        obtain ⟨ds, h1, rfl⟩ := h
        rw [toDL_len h1, List.length_take, List.length_drop]; omega
      · cases h
    · cases h
  · split at h
    · split at h
      · rename_i hc
        cases h
        have := Nat.mul_le_mul_right e hc.2.1
        rw [List.length_take]; omega
      · cases h
    · cases h
  · split at h
    · rename_i hm0; cases h; rw [nbeq.1 hm0]; simp
    · cases h
  · split at h
    · rename_i s hc
      cases h
      simp only [Bool.and_eq_true, Nat.ble_eq] at hc
      rw [nbeq.1 hc.1, List.length_map, List.length_take]
      have : s.data.toList.length = s.size := by simp
      omega
    · cases h
  · cases h
theorem aloadN_win {l : List D} {b k q sp : Nat} {blk : Blk} (hb : hget heap b = some blk) (h : DRepL w l blk.cells) (hq : k + q ≤ l.length) : ∃ vs, aloadN E heap ⟨b, k, some sp⟩ q = some vs ∧ DRepL w ((l.drop k).take q) vs := by
  have hl := h.length
  exact ⟨_, aloadN_blk hb (by omega), h.part k q⟩
/-- what the interpreter reads of a source, and that it is what was said -/
def SrcOK (E : Env) (heap : Heap) (w : VW) (e m : Nat) (vI : Value) (r : List D × List Nat) : Prop :=
  ∃ cs, srcCells E heap e m vI = some cs ∧ cs.length = r.1.length ∧ cs.all oneCell = true ∧ ∀ w', VW.le w w' → Fin w w' r.2 → LdX heap w w' r.2 → DRepL w' r.1 cs
theorem srcOK_of {e m : Nat} {vI : Value} {l : List D} (h : ∃ cs, srcCells E heap e m vI = some cs ∧ DRepL w l cs) : SrcOK E heap w e m vI (l, []) := by
  obtain ⟨cs, h1, h2⟩ := h
  exact ⟨cs, h1, h2.length, h2.one, fun w' k1 _ _ => h2.mono k1⟩
theorem toDL_one {w : VW} : ∀ {l : List V} {vs : List Value} {ds : List D}, VRepL w l vs → toDL H l = some ds → vs.all oneCell = true
  | [], vs, ds, h, ht => by simp only [VRepL] at h; subst h; rfl
  | x :: r, vs, ds, h, ht => by
    simp only [toDL, Option.bind_eq_some_iff, Option.map_eq_some_iff] at ht
    obtain ⟨d, h1, ds', h2, rfl⟩ := ht
    simp only [VRepL] at h
    obtain ⟨u, us, rfl, k1, k2⟩ := h
    have : oneV x = true := by
      cases x with
      | agg l => simp [toD] at h1
      | tup l => simp [toD] at h1
      | dead => simp [toD] at h1
      | _ => rfl
    simp only [List.all_cons, k1.one this, Bool.true_and]
    exact toDL_one k2 h2
theorem srcD_ok (hr : HR E H heap w) {e m : Nat} {r : List D × List Nat} {vI : Value} (hv : VRep w v vI) (h : srcD H e m v = some r) (hm : ∀ n, lenS v = some n → m ≤ n) : SrcOK E heap w e m vI r := by
  have hnil : ∀ {u : Value}, m = 0 → r = ([], []) → (u = .slice none 0 0 ∨ ∃ a b c, u = .complex a b c) → SrcOK E heap w e m u r := by
    intro u h0 h1 h2
    subst h0 h1
    exact srcOK_of (by rcases h2 with rfl | ⟨a, b, c, rfl⟩ <;> exact ⟨[], rfl, by simp only [DRepL]⟩)
  unfold srcD at h
  split at h
  · rename_i s n l
    split at h
    case isFalse => cases h
    rename_i hc
    cases h
    have hle := Nat.mul_le_mul_right e hc.2
    simp only [VRep, DRep] at hv
    rcases hv with ⟨a, c, rfl, i, _, hA, _⟩ | ⟨_, rfl, rfl, rfl | ⟨_, a, b, c, rfl⟩⟩
    · exact srcOK_of (aloadN_ok hr i hA (m * e) (by omega))
    · exact hnil (by omega) (by simp) (.inl rfl)
    · exact hnil (by omega) (by simp) (.inr ⟨_, _, _, rfl⟩)
  · rename_i s n c l
    split at h
    case isFalse => cases h
    rename_i hc
    cases h
    have hle := Nat.mul_le_mul_right e hc.2
    simp only [VRep] at hv
    rcases hv with ⟨_, _, ⟨a, rfl, i, hA⟩ | ⟨_, rfl, _, rfl, rfl⟩⟩
    · exact srcOK_of (aloadN_ok hr i hA (m * e) (by omega))
    · exact hnil (by omega) (by simp) (.inl rfl)
  · rename_i o k n c
    simp only [VRep] at hv
    obtain ⟨k1, _, b', rfl, k3⟩ := hv
    split at h
    · rename_i t e' g z l' ho
      split at h
      case isFalse => cases h
      rename_i hc
      cases h
      obtain ⟨b, blk, m1, m2, m3⟩ := hr.obj o _ ho rfl
      have := k3 b m1
      subst this
      exact srcOK_of (aloadN_win (E := E) m2 m3.2.2.2 hc)
    · rename_i t e' z l' ho
      split at h
      case isFalse => cases h
      rename_i hc
      cases h
      have hne : (Obj.gro t e' z l').none = false := by
        cases l' with
        | nil =>
          exfalso
          have := Nat.mul_pos (Nat.pos_of_ne_zero hc.2.1) (Nat.pos_of_ne_zero hc.2.2)
          simp at hc; omega
        | cons => rfl
      obtain ⟨b, blk, m1, m2, m3⟩ := hr.obj o _ ho hne
      have := k3 b m1
      subst this
      exact srcOK_of (aloadN_win (E := E) m2 m3.2.2.2 hc.1)
    · rename_i t e' l' ho
      split at h
      case isFalse => cases h
      rename_i hc
      simp only [Option.map_eq_some_iff] at h
      obtain ⟨ds, hd, rfl⟩ := h
      obtain ⟨b, blk, m1, m2, m3⟩ := hr.obj o _ ho rfl
      have := k3 b m1
      subst this
      have hcl := m3.2.2.2.length
      have hp := m3.2.2.2.part k (m * e)
      refine ⟨(blk.cells.drop k).take (m * e), aloadN_blk (E := E) m2 (by omega), ?_, toDL_one hp hd, fun w' q1 q2 q3 => (toDL_ok hr q1 hp hd q2 q3).1⟩
      rw [toDL_len hd, hp.length]
    · cases h
  · rename_i s o n
    split at h
    case h_2 => cases h
    rename_i t e' z l' ho
    split at h
    case isFalse => cases h
    rename_i hc
    cases h
    have hle := Nat.mul_le_mul_right e hc.2.1
    simp only [VRep] at hv
    obtain ⟨k1, hv⟩ := hv
    rcases hv with ⟨rfl, rfl | ⟨_, a, c, rfl, i⟩⟩ | ⟨hn, b', rfl, k3⟩
    · have hl0 : l' = [] := List.eq_nil_of_length_eq_zero (by rw [hc.1]; simp)
      exact hnil (by omega) (by rw [hl0]; simp) (.inl rfl)
    · have hl0 : l' = [] := List.eq_nil_of_length_eq_zero (by rw [hc.1]; simp)
      subst hl0
      exact srcOK_of (aloadN_ok hr i (DRepA.nil a) (m * e) (by have : m = 0 := by omega
                                                               subst this; simp))
    · have hne : (Obj.gro t e' z l').none = false := by
        cases l' with
        | nil =>
          exfalso
          have := Nat.mul_pos (Nat.pos_of_ne_zero hn) (Nat.pos_of_ne_zero hc.2.2)
          simp at hc; omega
        | cons => rfl
      obtain ⟨b, blk, m1, m2, m3⟩ := hr.obj o _ ho hne
      have := k3 b m1
      subst this
      have := aloadN_win (E := E) (k := 0) (q := m * e) (sp := 0) m2 m3.2.2.2 (by omega)
      rw [List.drop_zero] at this
      exact srcOK_of this
  · rename_i q1 q2
    split at h
    case isFalse => cases h
    rename_i hm0
    cases h
    have hx := hv.ok
    have := hv.scv
    subst this
    simp only [scOK, Bool.and_eq_true, nbeq] at hx
    obtain ⟨rfl, rfl⟩ := hx
    exact hnil (nbeq.1 hm0) rfl (.inl rfl)
  · rename_i s
    split at h
    case isFalse => cases h
    rename_i hc
    cases h
    simp only [Bool.and_eq_true, Nat.ble_eq] at hc
    have he := nbeq.1 hc.1
    subst he
    have := hv.scv
    subst this
    refine srcOK_of ⟨cellsOfBytes (s.data.toList.take m), ?_, bytes_rep _⟩
    have hsz : s.data.toList.length = s.size := by simp
    show (ltake s.data.toList m).map cellsOfBytes = _
    rw [ltake_eq _ _ (by omega)]
    rfl
  · cases h
theorem SrcOK.plain (hr : HR E H heap w) {e m : Nat} {vI : Value} {r : List D × List Nat} (h : SrcOK E heap w e m vI r) (h2 : r.2 = []) : ∃ cs, srcCells E heap e m vI = some cs ∧ DRepL w r.1 cs := by
  obtain ⟨cs, h1, _, _, h3⟩ := h
  exact ⟨cs, h1, h3 w ⟨fun _ _ => rfl, fun _ h => h, Nat.le_refl _, fun _ _ _ h => h⟩ (by rw [h2]; intro o ho; cases ho) (by rw [h2]; intro o ho; cases ho)⟩
theorem dbytes_ok : ∀ {l : List D} {bs : List UInt8} {cs : List Value}, dbytes l = some bs → DRepL w l cs → bytesOf cs = some bs
  | [], bs, cs, h, hl => by
    simp only [DRepL] at hl; subst hl
    simp only [dbytes, Option.some.injEq] at h; subst h; rfl
  | .sc (.int .u8 n) :: r, bs, cs, h, hl => by
    simp only [DRepL, DRep] at hl
    obtain ⟨v, vs, rfl, ⟨rfl, _⟩, h2⟩ := hl
    simp only [dbytes, Option.map_eq_some_iff] at h
    obtain ⟨bs', h1, rfl⟩ := h
    simp [bytesOf, dbytes_ok h1 h2]
  | .sc (.int .i8 n) :: r, bs, cs, h, hl => by simp [dbytes] at h
  | .sc (.int .i16 n) :: r, bs, cs, h, hl => by simp [dbytes] at h
  | .sc (.int .i32 n) :: r, bs, cs, h, hl => by simp [dbytes] at h
  | .sc (.int .i64 n) :: r, bs, cs, h, hl => by simp [dbytes] at h
  | .sc (.int .u16 n) :: r, bs, cs, h, hl => by simp [dbytes] at h
  | .sc (.int .u32 n) :: r, bs, cs, h, hl => by simp [dbytes] at h
  | .sc (.int .u64 n) :: r, bs, cs, h, hl => by simp [dbytes] at h
  | .sc (.bool _) :: r, bs, cs, h, hl => by simp [dbytes] at h
  | .sc (.float _ _) :: r, bs, cs, h, hl => by simp [dbytes] at h
  | .sc (.complex _ _ _) :: r, bs, cs, h, hl => by simp [dbytes] at h
  | .sc (.string _) :: r, bs, cs, h, hl => by simp [dbytes] at h
  | .sc (.pointer _) :: r, bs, cs, h, hl => by simp [dbytes] at h
  | .sc (.slice _ _ _) :: r, bs, cs, h, hl => by simp [dbytes] at h
  | .sc (.map _) :: r, bs, cs, h, hl => by simp [dbytes] at h
  | .sc (.chan _) :: r, bs, cs, h, hl => by simp [dbytes] at h
  | .sc (.func _ _ _) :: r, bs, cs, h, hl => by simp [dbytes] at h
  | .sc (.nilFunc) :: r, bs, cs, h, hl => by simp [dbytes] at h
  | .sc (.iface _ _) :: r, bs, cs, h, hl => by simp [dbytes] at h
  | .sc (.nilIface) :: r, bs, cs, h, hl => by simp [dbytes] at h
  | .sc (.agg _) :: r, bs, cs, h, hl => by simp [dbytes] at h
  | .sc (.tuple _) :: r, bs, cs, h, hl => by simp [dbytes] at h
  | .sl _ _ _ :: r, bs, cs, h, hl => by simp [dbytes] at h
theorem vo_b2s (hr : HR E H heap w) (hf : FR w fr frI) {x : Operand} (h : Hyp E H w fr (.b2s x) v ob fz) : Goal E heap w frI n p (.b2s x) v ob fz := by
  simp only [Hyp, vpstep, Option.bind_eq_some_iff] at h
  obtain ⟨a, h1, h⟩ := h
  split at h
  case isFalse => cases h
  rename_i hok
  simp only [Option.bind_eq_some_iff] at h
  obtain ⟨m, h2, l, h3, h⟩ := h
  split at h
  · cases h
  rename_i hl2
  simp only [Bool.not_eq_true', Bool.not_eq_false, List.isEmpty_iff] at hl2
  simp only [Option.bind_eq_some_iff] at h
  obtain ⟨bs, h4, h⟩ := h
  cases h
  obtain ⟨aI, a1, a2⟩ := vev_ok hf h1
  obtain ⟨q1, q2⟩ := lenV_ok a2 h2
  have hls : lenS a = some m := by
    unfold lenS
    split
    · rename_i s; exact absurd a2.scv (q2 s)
    · exact h2
  obtain ⟨cs, c1, c2⟩ := (srcD_ok hr a2 h3 (fun k hk => by rw [hls] at hk; cases hk; exact Nat.le_refl _)).plain hr hl2
  have hb := dbytes_ok h4 c2
  refine ⟨_, [], ?_, .pure (.mksc rfl)⟩
  simp only [pstep, a1, Option.bind_some]
  have hcx : ∀ k b e, aI ≠ .complex k b e := by
    intro k b e ee
    subst ee
    cases a with
    | sl s k' l' =>
      simp only [VRep, DRep] at a2
      rcases a2 with ⟨_, _, e, _⟩ | ⟨_, h0, _, e | ⟨hs, _⟩⟩
      · cases e
      · cases e
      · exact (okD_sl (l := l').1 hok).elim (fun h => h hs) (fun h => h h0)
    | sc u => have := a2.ok; have h' := a2.scv; subst h'; cases this
    | slk s k' c' l' => simp only [VRep] at a2; rcases a2 with ⟨_, _, ⟨_, e, _⟩ | ⟨_, _, _, _, e⟩⟩ <;> cases e
    | ref o k' i c' => simp only [VRep] at a2; obtain ⟨_, _, _, e, _⟩ := a2; cases e
    | gr s o k' => simp only [VRep] at a2; rcases a2 with ⟨_, ⟨_, e | ⟨_, _, _, e, _⟩⟩ | ⟨_, _, e, _⟩⟩ <;> cases e
    | _ => simp [lenV] at h2
  unfold lenA at q1
  split at q1
  · rename_i ad k c
    cases q1
    cases ad with
    | none =>
      simp only [srcCells] at c1
      split at c1
      · cases c1
        simp only [bytesOf, Option.some.injEq] at hb
        subst hb
        rfl
      · cases c1
    | some ad =>
      simp only [srcCells, Nat.mul_one] at c1
      simp [c1, hb]
  · exact absurd rfl (hcx _ _ _)
  · exact absurd rfl (q2 _)
  · cases q1
theorem lenV_le {vI : Value} {m : Nat} (hv : VRep w v vI) (h : lenS v = some m) : True := trivial
theorem vappP_ok (hr : HR E H heap w) {t : TypeId} {e b : Nat} {x y : V} {xI yI : Value} (hx : VRep w x xI) (hy : VRep w y yI) (h : vappP H w.nx t e b x y = some (v, ob, fz)) : ∃ vI bs, appP E ⟨heap, n, p⟩ t e b xI yI = some (vI, bs) ∧ POut heap w n v ob fz vI bs := by
  simp only [vappP, Option.bind_eq_some_iff] at h
  obtain ⟨m, hm, new, hnew, h⟩ := h
  have hlen := lenS_ok hy hm
  split at h
  · rename_i h0
    have key : ∀ {a : Option Addr} {k c : Nat}, xI = .slice a k c → capOK k c → appP E ⟨heap, n, p⟩ t e b xI yI = some (xI, []) := by
      intro a k c e1 e2
      subst e1
      simp only [appP, hlen, Option.bind_some]
      rw [if_pos h0, if_pos (by rw [Nat.ble_eq]; exact e2)]
    split at h
    · split at h
      case isFalse => cases h
      rename_i hok
      cases h
      rw [okD_sl] at hok
      refine ⟨xI, [], ?_, .pure hx⟩
      simp only [VRep, DRep] at hx
      rcases hx with ⟨a, c, rfl, _, k, _⟩ | ⟨_, rfl, _, rfl | ⟨hs, _⟩⟩
      · exact key rfl k
      · exact key rfl (Nat.zero_le _)
      · exact absurd hok (by omega)
    · cases h
      refine ⟨xI, [], ?_, .pure hx⟩
      simp only [VRep] at hx
      rcases hx with ⟨hc, hn, ⟨a, rfl, _⟩ | ⟨_, rfl, rfl, _, rfl⟩⟩
      · exact key rfl (by unfold capOK; rw [knownCap_lt hc]; exact hn)
      · exact key rfl (Nat.zero_le _)
    · cases h
      refine ⟨xI, [], ?_, .pure hx⟩
      simp only [VRep] at hx
      obtain ⟨_, hc, b', rfl, _⟩ := hx
      exact key rfl hc
    · cases h
      have hk := hx.ok
      have := hx.scv
      subst this
      simp only [scOK, Bool.and_eq_true, nbeq] at hk
      obtain ⟨rfl, rfl⟩ := hk
      exact ⟨_, [], key rfl (Nat.zero_le _), .pure hx⟩
    · cases h
  · rename_i h0
    split at h
    case isFalse => cases h
    rename_i hok
    simp only [Bool.and_eq_true, Bool.not_eq_true'] at hok
    have hm0 : m ≠ 0 := by rw [nbeq] at h0; exact h0
    have he0 : e ≠ 0 := by have := hok.2; rw [← Bool.not_eq_true, nbeq] at this; exact this
    have hml : ∀ k, lenS y = some k → m ≤ k := fun k hk => by rw [hm] at hk; cases hk; exact Nat.le_refl _
    obtain ⟨cs, c1, c0, c3, c2⟩ := srcD_ok hr hy hnew hml
    have hnl := srcD_len hnew hml
    have hnn : new.1.length ≠ 0 := by
      have := Nat.mul_pos (Nat.pos_of_ne_zero hm0) (Nat.pos_of_ne_zero he0); omega
    have key : ∀ {a : Option Addr} {k c : Nat} {old : List D × List Nat}, xI = .slice a k c → c < big → c < k + m → k + m ≤ room → (k + m) * b ≤ room → SrcOK E heap w e k xI old → okL old.1 = true →
        ∃ vI bs, appP E ⟨heap, n, p⟩ t e b xI yI = some (vI, bs) ∧ POut heap w n (.gr 2 w.nx (k + m)) (some (.gro t e false (old.1 ++ new.1))) (old.2 ++ new.2) vI bs := by
      intro a k c old e1 g1 g2 g3 g4 g5 g7
      obtain ⟨us, u1, u0, u3, u2⟩ := g5
      refine ⟨.slice (some ⟨n, 0, some 0⟩) (k + m) (big + (k + m)), [⟨us ++ cs, e, true, t⟩], ?_, ?_, rfl, ?_, _, rfl, fun w' k1 k2 k3 k4 k5 => ⟨.gr_new k4 k5 _ (by omega), rfl, rfl, rfl,
        (u2 w' k1 (fun o ho => k2 o (List.mem_append.2 (.inl ho))) (fun o ho => k3 o (List.mem_append.2 (.inl ho)))).append (c2 w' k1 (fun o ho => k2 o (List.mem_append.2 (.inr ho))) (fun o ho => k3 o (List.mem_append.2 (.inr ho))))⟩⟩
      · subst e1
        simp only [appP, hlen, Option.bind_some]
        rw [if_neg h0, if_pos (by simp only [Bool.and_eq_true, Nat.ble_eq, Nat.blt_eq]; exact ⟨⟨⟨g3, g4⟩, g1⟩, g2⟩), c1]
        simp only [Option.bind_some, u1, Option.map_some]
      · cases h1 : old.1 ++ new.1 with
        | nil =>
          have := congrArg List.length h1
          rw [List.length_append, List.length_nil] at this
          omega
        | cons => rfl
      · simp only [Obj.ok, okL, List.all_append, Bool.and_eq_true]
        exact ⟨g7, hok.1⟩
    have hsn : SrcOK E heap w e 0 (.slice none 0 0) ([], []) := srcOK_of ⟨[], rfl, by simp only [DRepL]⟩
    split at h
    · split at h
      case isFalse => cases h
      rename_i hc
      simp only [Bool.and_eq_true, Nat.ble_eq] at hc
      cases h
      have hk := hx.ok
      have := hx.scv
      subst this
      simp only [scOK, Bool.and_eq_true, nbeq] at hk
      obtain ⟨rfl, rfl⟩ := hk
      have := key rfl (by unfold big; omega) (by omega) (by rw [Nat.zero_add]; exact hc.1) (by rw [Nat.zero_add]; exact hc.2) hsn rfl
      simpa only [Nat.zero_add, List.nil_append] using this
    · rename_i s k c l
      split at h
      case isFalse => cases h
      rename_i hc
      simp only [Bool.and_eq_true, Nat.ble_eq, Nat.blt_eq] at hc
      obtain ⟨g0, ⟨⟨g2, g7⟩, g3⟩, g4⟩ := hc
      cases h
      have hx' := hx
      simp only [VRep] at hx
      have hsrc : srcD H e k (.slk s k c l) = some (l, []) := by
        simp only [srcD]
        rw [if_pos ⟨g0, Nat.le_refl _⟩, List.take_of_length_le (by omega)]
      have hso := srcD_ok hr hx' hsrc (fun j hj => by simp [lenS, lenV] at hj; omega)
      rcases hx with ⟨hcb, hn, ⟨a, rfl, _⟩ | ⟨_, rfl, rfl, _, rfl⟩⟩
      · exact key rfl hcb g2 g3 g4 hso g7
      · exact key rfl hcb g2 g3 g4 hso g7
    · rename_i o k j c
      split at h
      case isFalse => cases h
      rename_i hc
      simp only [Bool.and_eq_true, Nat.ble_eq, Nat.blt_eq] at hc
      obtain ⟨⟨⟨g1, g2⟩, g3⟩, g4⟩ := hc
      simp only [Option.bind_eq_some_iff] at h
      obtain ⟨l, hsrc, h⟩ := h
      split at h
      case isFalse => cases h
      rename_i g7
      cases h
      have hso := srcD_ok hr hx hsrc (fun i hi => by simp [lenS, lenV] at hi; omega)
      simp only [VRep] at hx
      obtain ⟨_, _, b', rfl, _⟩ := hx
      exact key rfl g1 g2 g3 g4 hso g7
    · cases h
theorem vo_app (hr : HR E H heap w) (hf : FR w fr frI) {t : TypeId} {e b : Nat} {x y : Operand} (h : Hyp E H w fr (.app t e b x y) v ob fz) : Goal E heap w frI n p (.app t e b x y) v ob fz := by
  simp only [Hyp, vpstep, Option.bind_eq_some_iff] at h
  obtain ⟨a, h1, c, h2, h⟩ := h
  obtain ⟨aI, a1, a2⟩ := vev_ok hf h1
  obtain ⟨bI, b1, b2⟩ := vev_ok hf h2
  obtain ⟨vI, bs, e1, e2⟩ := vappP_ok hr a2 b2 h (n := n) (p := p)
  exact ⟨vI, bs, by simp [pstep, a1, b1, e1], e2⟩
theorem vo_eqIf (hf : FR w fr frI) {g lit : Bool} {ts : List TypeId} {x y : Operand} (h : Hyp E H w fr (.eqIf g lit ts x y) v ob fz) : Goal E heap w frI n p (.eqIf g lit ts x y) v ob fz := by
  simp only [Hyp, vpstep, Option.bind_eq_some_iff] at h
  obtain ⟨a, h1, c, h2, h⟩ := h
  obtain ⟨aI, a1, a2⟩ := vev_ok hf h1
  obtain ⟨bI, b1, b2⟩ := vev_ok hf h2
  split at h
  · simp only [Option.bind_eq_some_iff] at h
    obtain ⟨r, hr, h⟩ := h
    cases h
    rw [a2.scv] at a1
    rw [b2.scv] at b1
    exact ⟨_, [], by simp [pstep, a1, b1, hr], .pure (.mksc rfl)⟩
  · cases h
    rw [b2.scv] at b1
    simp only [VRep] at a2
    obtain ⟨u, rfl, _⟩ := a2
    exact ⟨_, [], by simp [pstep, a1, b1, eqIfA], .pure (.mksc rfl)⟩
  · cases h
theorem vo_eqPtr (hr : HR E H heap w) (hf : FR w fr frI) {g : Bool} {x y : Operand} (h : Hyp E H w fr (.eqPtr g x y) v ob fz) : Goal E heap w frI n p (.eqPtr g x y) v ob fz := by
  simp only [Hyp, vpstep, Option.bind_eq_some_iff] at h
  obtain ⟨a, h1, c, h2, h⟩ := h
  obtain ⟨aI, a1, a2⟩ := vev_ok hf h1
  obtain ⟨bI, b1, b2⟩ := vev_ok hf h2
  split at h
  · simp only [Option.bind_eq_some_iff] at h
    obtain ⟨r, hr, h⟩ := h
    cases h
    rw [a2.scv] at a1
    rw [b2.scv] at b1
    exact ⟨_, [], by simp [pstep, a1, b1, hr], .pure (.mksc rfl)⟩
  · cases h
    rw [a2.scv] at a1
    simp only [VRep] at b2
    obtain ⟨_, u, rfl, _⟩ := b2
    exact ⟨_, [], by simp [pstep, a1, b1, eqPtrA], .pure (.mksc rfl)⟩
  · cases h
    rw [b2.scv] at b1
    simp only [VRep] at a2
    obtain ⟨_, u, rfl, _⟩ := a2
    exact ⟨_, [], by simp [pstep, a1, b1, eqPtrA], .pure (.mksc rfl)⟩
  · rename_i o k o' k'
    split at h
    case isFalse => cases h
    rename_i hc
    obtain ⟨rfl, hc⟩ := hc
    split at h
    · cases h
    rename_i hne
    cases h
    obtain ⟨obj, ho⟩ := Option.isSome_iff_exists.1 hc
    have hnn : obj.none = false := by
      cases obj with
      | gro t e z l => exact absurd ho (hne t e z l)
      | _ => rfl
    obtain ⟨b, blk, m1, m2, m3⟩ := hr.obj o _ ho hnn
    simp only [VRep] at a2 b2
    obtain ⟨_, u, rfl, q1⟩ := a2
    obtain ⟨_, u', rfl, q2⟩ := b2
    rw [q1 b m1] at a1
    rw [q2 b m1] at b1
    refine ⟨_, [], ?_, .pure (.mksc rfl)⟩
    have hbb : Nat.beq b b = true := nbeq.2 rfl
    simp [pstep, a1, b1, eqPtrA, hbb]
  · cases h
theorem vo_toUns (hr : HR E H heap w) (hf : FR w fr frI) {x : Operand} (h : Hyp E H w fr (.toUns x) v ob fz) : Goal E heap w frI n p (.toUns x) v ob fz := by
  simp only [Hyp, vpstep, Option.bind_eq_some_iff] at h
  obtain ⟨a, h1, h⟩ := h
  obtain ⟨aI, a1, a2⟩ := vev_ok hf h1
  split at h
  · cases h
    rw [a2.scv] at a1
    exact ⟨_, [], by simp [pstep, a1], .pure (.mksc rfl)⟩
  · rename_i o k
    split at h
    case h_2 => cases h
    rename_i t e0 l ho
    split at h
    case isFalse => cases h
    rename_i hk
    cases h
    obtain ⟨b, blk, m1, m2, m3⟩ := hr.obj o _ ho rfl
    have a2' := a2
    simp only [VRep] at a2
    obtain ⟨_, u, rfl, q⟩ := a2
    have := q b m1
    subst this
    refine ⟨_, [], ?_, .pure a2'⟩
    simp only [pstep, a1, Option.bind_some, inBlk, m2]
    rw [if_pos (by rw [Nat.blt_eq] at hk ⊢; rw [m3.2.2.2.length]; exact hk)]
  · cases h
theorem vo_fromUns (hr : HR E H heap w) (hf : FR w fr frI) {t : TypeId} {m : Nat} {x : Operand} (h : Hyp E H w fr (.fromUns t m x) v ob fz) : Goal E heap w frI n p (.fromUns t m x) v ob fz := by
  simp only [Hyp, vpstep, Option.bind_eq_some_iff] at h
  obtain ⟨a, h1, h⟩ := h
  obtain ⟨aI, a1, a2⟩ := vev_ok hf h1
  split at h
  · cases h
    rw [a2.scv] at a1
    exact ⟨_, [], by simp [pstep, a1], .pure (.mksc rfl)⟩
  · rename_i o k
    split at h
    case h_2 => cases h
    rename_i t' e0 l ho
    split at h
    case isFalse => cases h
    rename_i hk
    cases h
    obtain ⟨b, blk, m1, m2, m3⟩ := hr.obj o _ ho rfl
    have a2' := a2
    simp only [VRep] at a2
    obtain ⟨_, u, rfl, q⟩ := a2
    have := q b m1
    subst this
    refine ⟨_, [], ?_, .pure a2'⟩
    simp only [pstep, a1, Option.bind_some, wholeBlk, m2]
    simp only [Bool.and_eq_true] at hk
    rw [if_pos (by simp only [Bool.and_eq_true, Bool.not_eq_true']; rw [m3.2.2.1, m3.2.1, m3.2.2.2.length]; exact ⟨⟨⟨⟨hk.1.1.1, rfl⟩, hk.1.1.2⟩, hk.1.2⟩, hk.2⟩)]
  · cases h
theorem vo_sdata (hf : FR w fr frI) {x : Operand} (h : Hyp E H w fr (.sdata x) v ob fz) : Goal E heap w frI n p (.sdata x) v ob fz := by
  simp only [Hyp, vpstep, Option.bind_eq_some_iff] at h
  obtain ⟨a, h1, h⟩ := h
  obtain ⟨aI, a1, a2⟩ := vev_ok hf h1
  split at h
  · cases h
    rw [a2.scv] at a1
    exact ⟨_, [], by simp [pstep, a1], .pure (.mksc rfl)⟩
  · rename_i o k j c
    split at h
    · cases h
    rename_i hc
    cases h
    simp only [VRep] at a2
    obtain ⟨q1, q2, u, rfl, q⟩ := a2
    refine ⟨_, [], by simp only [pstep, a1, Option.bind_some]; rw [if_neg hc], .pure ?_⟩
    simp only [VRep]
    exact ⟨q1, u, rfl, q⟩
  · rename_i s o j
    split at h
    · cases h
    rename_i hc
    rw [nbeq] at hc
    cases h
    simp only [VRep] at a2
    rcases a2 with ⟨q1, ⟨h0, _⟩ | ⟨_, u, rfl, q⟩⟩
    · exact absurd h0 hc
    refine ⟨.pointer (some ⟨u, 0, some 0⟩), [], ?_, .pure ?_⟩
    · simp only [pstep, a1, Option.bind_some]
      rw [if_neg]
      simp only [Bool.or_eq_true, nbeq]
      unfold big
      omega
    · simp only [VRep]
      exact ⟨q1, u, rfl, q⟩
  · cases h
theorem rep_all {z : List Value} {p : Value → Bool} (h : z.all p = true) : ∀ n, (rep z n).all p = true
  | 0 => rfl
  | n + 1 => by simp only [rep, List.all_append, Bool.and_eq_true]; exact ⟨h, rep_all h n⟩
theorem rep_ne {z : List Value} (h : z ≠ []) {n : Nat} (hn : 0 < n) : rep z n ≠ [] := by
  cases n with
  | zero => exact absurd hn (Nat.lt_irrefl 0)
  | succ n => cases z with
    | nil => exact absurd rfl h
    | cons a r => simp [rep]
theorem vo_appMk (hr : HR E H heap w) (hf : FR w fr frI) {t : TypeId} {e b : Nat} {z : List Value} {x y : Operand} (h : Hyp E H w fr (.appMk t e b z x y) v ob fz) : Goal E heap w frI n p (.appMk t e b z x y) v ob fz := by
  simp only [Hyp, vpstep, Option.bind_eq_some_iff] at h
  obtain ⟨a, h1, c, h2, h⟩ := h
  obtain ⟨xI, a1, hx⟩ := vev_ok hf h1
  obtain ⟨bI, b1, b2⟩ := vev_ok hf h2
  unfold vappMk at h
  split at h
  case h_2 => cases h
  rename_i k
  rw [b2.scv] at b1
  have fin : ∀ {vI : Value} {bs : List Blk}, appMkP E ⟨heap, n, p⟩ t e b z xI (.int .i64 k) = some (vI, bs) → POut heap w n v ob fz vI bs → Goal E heap w frI n p (.appMk t e b z x y) v ob fz := fun h1 h2 =>
    ⟨_, _, by simp only [pstep, a1, b1, Option.bind_some]; exact h1, h2⟩
  split at h
  · rename_i h0
    subst h0
    have key : ∀ {a : Option Addr} {k c : Nat}, xI = .slice a k c → capOK k c → appMkP E ⟨heap, n, p⟩ t e b z xI (.int .i64 0) = some (xI, []) := by
      intro a k c e1 e2
      subst e1
      simp only [appMkP]
      rw [if_pos trivial, if_pos (by rw [Nat.ble_eq]; exact e2)]
    split at h
    · split at h
      case isFalse => cases h
      rename_i hok
      cases h
      rw [okD_sl] at hok
      have hx' := hx
      simp only [VRep, DRep] at hx
      rcases hx with ⟨a, c, rfl, _, k, _⟩ | ⟨_, rfl, _, rfl | ⟨hs, _⟩⟩
      · exact fin (key rfl k) (.pure hx')
      · exact fin (key rfl (Nat.zero_le _)) (.pure hx')
      · exact absurd hok (by omega)
    · cases h
      have hx' := hx
      simp only [VRep] at hx
      rcases hx with ⟨hc, hn, ⟨a, rfl, _⟩ | ⟨_, rfl, rfl, _, rfl⟩⟩
      · exact fin (key rfl (by unfold capOK; rw [knownCap_lt hc]; exact hn)) (.pure hx')
      · exact fin (key rfl (Nat.zero_le _)) (.pure hx')
    · cases h
      have hx' := hx
      simp only [VRep] at hx
      obtain ⟨_, hc, b', rfl, _⟩ := hx
      exact fin (key rfl hc) (.pure hx')
    · cases h
      have hk := hx.ok
      have := hx.scv
      subst this
      simp only [scOK, Bool.and_eq_true, nbeq] at hk
      obtain ⟨rfl, rfl⟩ := hk
      exact fin (key rfl (Nat.zero_le _)) (.pure hx)
    · cases h
  · rename_i h0
    split at h
    case isFalse => cases h
    rename_i hc
    obtain ⟨c1, c2, c3, c4⟩ := hc
    have hrz := DRepL.sc (w := w) (rep z k.toNat) (rep_all c3 _)
    have hrn : rep z k.toNat ≠ [] := rep_ne c4 (by omega)
    have key : ∀ {a : Option Addr} {j c : Nat} {old : List D}, xI = .slice a j c → c < big → c < j + k.toNat → j + k.toNat ≤ room → (j + k.toNat) * b ≤ room → SrcOK E heap w e j xI (old, []) → okL old = true →
        v = .gr 2 w.nx (j + k.toNat) → ob = some (.gro t e false (old ++ scD (rep z k.toNat))) → fz = [] → Goal E heap w frI n p (.appMk t e b z x y) v ob fz := by
      intro a j c old e1 g1 g2 g3 g4 g5 g7 r1 r2 r3
      subst r1 r2 r3
      obtain ⟨us, u1, u0, u3, u2⟩ := g5
      refine fin (vI := .slice (some ⟨n, 0, some 0⟩) (j + k.toNat) (big + (j + k.toNat))) (bs := [⟨us ++ rep z k.toNat, e, true, t⟩]) ?_ ⟨?_, rfl, ?_, _, rfl, fun w' k1 k2 k3 k4 k5 => ⟨.gr_new k4 k5 _ (by omega), rfl, rfl, rfl,
        (u2 w' k1 (fun o ho => by cases ho) (fun o ho => by cases ho)).append (hrz.mono k1)⟩⟩
      · subst e1
        simp only [appMkP]
        rw [if_neg h0, if_pos ⟨c1, c2⟩, if_pos (by
          simp only [Bool.and_eq_true, Nat.ble_eq, Nat.blt_eq, Bool.not_eq_true', ← Bool.not_eq_true]; exact ⟨⟨⟨g3, g4⟩, g1⟩, by omega⟩), u1]
        rfl
      · cases h1 : old ++ scD (rep z k.toNat) with
        | nil =>
          have := congrArg List.length h1
          simp only [List.length_append, List.length_nil, scD, List.length_map] at this
          exact absurd (List.eq_nil_of_length_eq_zero (by omega)) hrn
        | cons => rfl
      · simp only [Obj.ok, okL, List.all_append, Bool.and_eq_true]
        exact ⟨g7, okL_sc _⟩
    have hsn : SrcOK E heap w e 0 (.slice none 0 0) ([], []) := srcOK_of ⟨[], rfl, by simp only [DRepL]⟩
    split at h
    · split at h
      case isFalse => cases h
      rename_i hc
      rw [Nat.ble_eq] at hc
      cases h
      have hk := hx.ok
      have := hx.scv
      subst this
      simp only [scOK, Bool.and_eq_true, nbeq] at hk
      obtain ⟨rfl, rfl⟩ := hk
      exact key rfl (by unfold big; omega) (by omega) (by unfold room at c2 ⊢; omega) (by rw [Nat.zero_add]; exact hc) hsn rfl (by rw [Nat.zero_add]) rfl rfl
    · rename_i s j c l
      split at h
      case isFalse => cases h
      rename_i hc
      simp only [Bool.and_eq_true, Nat.ble_eq, Nat.blt_eq] at hc
      obtain ⟨g0, ⟨⟨g2, g7⟩, g3⟩, g4⟩ := hc
      cases h
      have hx' := hx
      simp only [VRep] at hx
      have hsrc : srcD H e j (.slk s j c l) = some (l, []) := by
        simp only [srcD]
        rw [if_pos ⟨g0, Nat.le_refl _⟩, List.take_of_length_le (by omega)]
      have hso := srcD_ok hr hx' hsrc (fun i hi => by simp [lenS, lenV] at hi; omega)
      rcases hx with ⟨hcb, hn, ⟨a, rfl, _⟩ | ⟨_, rfl, rfl, _, rfl⟩⟩
      · exact key rfl hcb g2 g3 g4 hso g7 rfl rfl rfl
      · exact key rfl hcb g2 g3 g4 hso g7 rfl rfl rfl
    · cases h
/-- every operation that writes nothing -/
theorem vpstep_ok (hr : HR E H heap w) (hf : FR w fr frI) {op : AOp} (h : vpstep E.old fr H w.nx op = some (v, ob, fz)) : ∃ vI bs, pstep E frI ⟨heap, n, p⟩ op = some (vI, bs) ∧ POut heap w n v ob fz vI bs := by
  cases op with
  | mov x => exact vo_mov hf h
  | pick c a b => exact vo_pick hf h
  | alloc t z => exact vo_alloc h
  | box t x => exact vo_box hf h
  | build z ps => exact vo_build hf h
  | mkRow t e n z ps => exact vo_mkRow hf h
  | load g a => exact vo_load hr hf h
  | nilChk x => exact vo_nilChk hf h
  | bin op x y => exact vo_bin hf h
  | eqB g x y => exact vo_eqB hf h
  | eqNil k g x y => exact vo_eqNil hf h
  | un op x => exact vo_un hf h
  | convI k x => exact vo_convI hf h
  | convS x => exact vo_convS hf h
  | b2s x => exact vo_b2s hr hf h
  | mkSlice t e b z l c => exact vo_mkSlice hf h
  | slcS x lo hi => exact vo_slcS hf h
  | slc e x lo hi mx => exact vo_slc hf h
  | slcA n e x lo hi => exact vo_slcA hf h
  | fldA o x => exact vo_fldA hf h
  | fldV o g x => exact vo_fldV hf h
  | idxS e x i => exact vo_idxS hf h
  | idxA n e x i => exact vo_idxA hf h
  | idxStr x i => exact vo_idxStr hf h
  | idxV n e g x i => exact vo_idxV hf h
  | ext x i => exact vo_ext hf h
  | mkFn f a b => exact vo_mkFn hf h
  | mkIf t x => exact vo_mkIf hf h
  | len t x => exact vo_len hf h
  | mm g x y => exact vo_mm hf h
  | app t e b x y => exact vo_app hr hf h
  | appMk t e b z x y => exact vo_appMk hr hf h
  | eqIf g l ts x y => exact vo_eqIf hf h
  | eqPtr g x y => exact vo_eqPtr hr hf h
  | s2b t x => exact vo_s2b hf h
  | cap x => exact vo_cap hf h
  | toUns x => exact vo_toUns hr hf h
  | fromUns t n x => exact vo_fromUns hr hf h
  | sdata x => exact vo_sdata hf h
  | _ => simp [vpstep] at h
end
end Go.Itp
/-
  The memory behind an operation: new objects, objects written, objects given up.
-/
namespace Go.Itp
set_option linter.unusedVariables false
set_option linter.constructorNameAsVariable false
section
variable {C : Ctx} {st : VSt} {s : St} {μ : Nat → Option Nat} {F : Nat → Prop}

theorem frozA_get (fz : List Nat) : ∀ (H : VHp) (i : Nat), aget (frozA fz H) i = (aget H i).map fun o => if elemB i fz then o.froz else o
  | [], i => rfl
  | (j, o) :: r, i => by
    simp only [frozA]
    rw [aget_cons, aget_cons, frozA_get fz r i]
    by_cases h : i = j
    · subst h; simp
    · rw [if_neg h, if_neg h]
theorem froz_none (o : Obj) : o.froz.none = o.none := by
  cases o with
  | gro t e z l => cases l <;> rfl
  | _ => rfl
theorem froz_ok (o : Obj) : o.froz.ok = o.ok := by cases o <;> rfl
theorem froz_rep {w : VW} {o : Obj} {b : Blk} (h : ORep w o b) : ORep w o.froz b := by cases o <;> exact h
theorem elemB_nil' (i : Nat) : elemB i [] = false := rfl
theorem frozA_nil (H : VHp) : frozA [] H = H := by
  induction H with
  | nil => rfl
  | cons x r ih => obtain ⟨j, o⟩ := x; simp [frozA, elemB, ih]
theorem rowsB_get {ro : Nat} {H : VHp} : ∀ {fz : List Nat}, rowsB ro H fz = true → ∀ o ∈ fz, ∃ ob, aget H o = some ob ∧ ob.froz.fz = true ∧ ro ≤ o
  | [], _, o, h => by cases h
  | i :: r, h, o, ho => by
    simp only [rowsB, Bool.and_eq_true, Nat.ble_eq] at h
    rcases List.mem_cons.1 ho with rfl | ho
    · have := h.1.2
      split at this
      · rename_i e; exact ⟨_, e, rfl, h.1.1⟩
      · rename_i e; exact ⟨_, e, rfl, h.1.1⟩
      · cases this
    · exact rowsB_get h.2 o ho
theorem SR.hr (h : SR C st s μ F) : HR C.E st.own s.heap (wof C st s μ F) := ⟨rfl, h.obj, fun b hb => (h.lt b hb).2⟩
theorem ids_F {w : VW} {n0 : Nat} {d : D} {v : Value} (h : DRep w d v) (hok : okD d = true) : ∀ i ∈ ids n0 v, w.F i := by
  intro i hi
  cases d with
  | sc x =>
    simp only [DRep] at h
    rw [h.1, scOK_ids n0 x h.2] at hi
    cases hi
  | sl s n l =>
    simp only [DRep] at h
    rcases h with ⟨a, c, rfl, k, _⟩ | ⟨_, h0, _, rfl | ⟨hs, _⟩⟩
    · obtain ⟨b, o, sp⟩ := a
      cases sp with
      | none => simp [ids, addrIds] at hi
      | some sp =>
        simp only [ids, addrIds] at hi
        split at hi
        · simp at hi; subst hi; exact k
        · cases hi
    · simp [ids, addrIds] at hi
    · exact ((okD_sl.1 hok).elim (fun h => h hs) (fun h => h h0)).elim
theorem idsL_F {w : VW} {n0 : Nat} : ∀ {l : List D} {vs : List Value}, DRepL w l vs → okL l = true → ∀ i ∈ idsL n0 vs, w.F i
  | [], vs, h, _, i, hi => by simp only [DRepL] at h; subst h; simp [idsL] at hi
  | d :: r, vs, h, hok, i, hi => by
    simp only [DRepL] at h
    obtain ⟨v, vs', rfl, h1, h2⟩ := h
    simp only [okL, List.all_cons, Bool.and_eq_true] at hok
    simp only [idsL, List.mem_append] at hi
    exact hi.elim (ids_F h1 hok.1 i) (idsL_F h2 hok.2 i)
/-- finishing some objects -/
def FinF (μ : Nat → Option Nat) (F : Nat → Prop) (fz : List Nat) (b : Nat) : Prop := F b ∨ ∃ o ∈ fz, μ o = some b
theorem SR.row_cl (h : SR C st s μ F) {o b : Nat} {ob : Obj} (ho : aget st.own o = some ob) (hr : ob.froz.fz = true) (hb : μ o = some b) : ∃ blk, hget s.heap b = some blk ∧ ∀ n, ∀ i ∈ idsL n blk.cells, F i := by
  obtain ⟨_, _, ob', e1, e2⟩ := h.dom o b hb
  rw [ho] at e1
  cases e1
  obtain ⟨b', blk, m1, m2, m3⟩ := h.obj o ob ho e2
  rw [hb] at m1
  cases m1
  refine ⟨blk, m2, ?_⟩
  have hok := (h.own o ob ho).2
  cases ob with
  | box t l => cases hr
  | row t e g z l => exact fun n => idsL_F m3.2.2.2 hok
  | gro t e z l => exact fun n => idsL_F m3.2.2.2 hok
theorem SR.fin_ge (h : SR C st s μ F) {fz : List Nat} (hrow : rowsB st.ro st.own fz = true) {b : Nat} (hb : FinF μ F fz b) : F b ∨ s.prot ≤ b := by
  rcases hb with hb | ⟨o, ho, e⟩
  · exact .inl hb
  · obtain ⟨ob, q1, q2, q3⟩ := rowsB_get hrow o ho
    by_cases hz : ob.fz = true
    · exact .inl (h.fz o ob b q1 e hz)
    · exact .inr ((h.wr o ob b q1 e (by simpa using hz)).2 q3).1
theorem aload_cons {E : Env} {heap : Heap} {n : Nat} {blk : Blk} {a : Addr} (h : a.spot = none ∨ a.block ≠ n) : aload E ((n, blk) :: heap) a = aload E heap a := by
  obtain ⟨b, o, sp⟩ := a
  cases sp with
  | none => rfl
  | some k =>
    have hb : b ≠ n := by simpa using h
    simp only [aload]
    rw [hget_cons, if_neg hb]
def muP (μ : Nat → Option Nat) (st : VSt) (s : St) : Option Obj → Nat → Option Nat
  | none => μ
  | some _ => fun i => if i = st.next then some s.next else μ i
theorem finF_nil (μ : Nat → Option Nat) (F : Nat → Prop) : FinF μ F [] = F := by
  funext b
  simp [FinF]
theorem SR.push (h : SR C st s μ F) {v : V} {ob : Option Obj} {fz : List Nat} {vI : Value} {bs : List Blk} (hP : POut s.heap (wof C st s μ F) s.next v ob fz vI bs) (hrow : rowsB st.ro st.own fz = true) :
    SR C (st.push ob fz) (s.push bs) (muP μ st s ob) (FinF μ F fz) ∧ VRep (wof C (st.push ob fz) (s.push bs) (muP μ st s ob) (FinF μ F fz)) v vI ∧ VW.le (wof C st s μ F) (wof C (st.push ob fz) (s.push bs) (muP μ st s ob) (FinF μ F fz)) ∧ (∀ b, FinF μ F fz b → F b ∨ s.prot ≤ b) := by
  cases ob with
  | none =>
    obtain ⟨rfl, rfl, hv⟩ := hP
    have e : st.push none [] = st := by simp [VSt.push, frozA_nil]
    rw [e, push_nil, finF_nil]
    exact ⟨h, hv, ⟨fun _ _ => rfl, fun _ hb => hb, Nat.le_refl _, fun _ _ _ hb => hb⟩, fun _ hb => .inl hb⟩
  | some o =>
    obtain ⟨hn, hz, hok, blk, rfl, hP⟩ := hP
    rw [push_one]
    have hne : ∀ o' b, μ o' = some b → b ≠ s.next := fun o' b e => Nat.ne_of_lt (h.dom o' b e).1
    let μ' : Nat → Option Nat := fun i => if i = st.next then some s.next else μ i
    have hμn : μ st.next = none := by
      cases e : μ st.next with
      | none => rfl
      | some b => have := (h.dom _ b e).2.1; omega
    have hμ' : ∀ i b, μ' i = some b → (i = st.next ∧ b = s.next) ∨ (i ≠ st.next ∧ μ i = some b) := fun i b e => by
      simp only [μ'] at e
      split at e
      · rename_i hi; cases e; exact .inl ⟨hi, rfl⟩
      · rename_i hi; exact .inr ⟨hi, e⟩
    have hle : VW.le (wof C st s μ F) (wof C (st.push (some o) fz) ⟨(s.next, blk) :: s.heap, s.next + 1, s.prot⟩ μ' (FinF μ F fz)) := by
      refine ⟨fun a i => aload_cons ?_, fun b hb => .inl hb, by simp [VSt.push], fun i b hi e => ?_⟩
      · obtain ⟨b, o', sp⟩ := a
        cases sp with
        | none => exact .inl rfl
        | some k => exact .inr (Nat.ne_of_lt (h.lt b i).1)
      · rcases hμ' i b e with ⟨hi', _⟩ | ⟨_, e⟩
        · simp only at hi; omega
        · exact e
    have hF : ∀ b, FinF μ F fz b → b < s.next := by
      rintro b (hb | ⟨i, _, e⟩)
      · exact (h.lt b hb).1
      · exact (h.dom i b e).1
    have hget' : ∀ b, b < s.next → hget ((s.next, blk) :: s.heap) b = hget s.heap b := fun b hb => by rw [hget_cons, if_neg (by omega)]
    obtain ⟨p1, p2⟩ := hP _ hle (fun i hi b e => .inr ⟨i, hi, e⟩) (fun i hi b e k sp blk' hb => by
        simp only [aload, hget' b (hF b (.inr ⟨i, hi, e⟩)), hb, Option.bind_some, lget_eq]) (by simp [VSt.push]) (by simp [μ'])
    have hown : ∀ i ob', aget (st.push (some o) fz).own i = some ob' → (i = st.next ∧ ob' = o) ∨ (i ≠ st.next ∧ ∃ ob0, aget st.own i = some ob0 ∧ ob' = if elemB i fz then ob0.froz else ob0) := fun i ob' e => by
      simp only [VSt.push] at e
      rw [aget_cons] at e
      split at e
      · rename_i hi; cases e; exact .inl ⟨hi, rfl⟩
      · rename_i hi
        rw [frozA_get] at e
        simp only [Option.map_eq_some_iff] at e
        obtain ⟨ob0, e1, e2⟩ := e
        exact .inr ⟨hi, ob0, e1, e2.symm⟩
    change SR C _ _ μ' _ ∧ VRep (wof C _ _ μ' _) v vI ∧ VW.le _ (wof C _ _ μ' _) ∧ _
    refine ⟨⟨?_, ?_, ?_, ?_, ?_, ?_, ?_, ?_, ?_, ?_, ?_, ?_, ?_⟩, p1, hle, ?_⟩
    · intro i ob' e hn'
      rcases hown i ob' e with ⟨rfl, rfl⟩ | ⟨hi, ob0, e1, rfl⟩
      · exact ⟨s.next, blk, by simp [μ'], by simp [hget_cons], p2⟩
      · have hn0 : ob0.none = false := by split at hn'; (rw [froz_none] at hn'; exact hn'); exact hn'
        obtain ⟨b, blk0, m1, m2, m3⟩ := h.obj i ob0 e1 hn0
        refine ⟨b, blk0, by simp [μ', hi, m1], by simp only; rw [hget' b (h.dom i b m1).1]; exact m2, ?_⟩
        split
        · exact froz_rep (m3.mono hle)
        · exact m3.mono hle
    · intro i ob' b e e2 hz'
      rcases hown i ob' e with ⟨rfl, rfl⟩ | ⟨hi, ob0, e1, rfl⟩
      · have : b = s.next := by rcases hμ' _ b e2 with ⟨_, hb⟩ | ⟨hi', _⟩; exact hb; exact absurd rfl hi'
        subst this
        exact ⟨fun hb => Nat.lt_irrefl _ (hF _ hb), fun _ => ⟨h.pr, fun hb => by have := (h.un _ hb).1; have := h.n0; omega⟩⟩
      · have e3 : μ i = some b := by rcases hμ' i b e2 with ⟨hi', _⟩ | ⟨_, e3⟩; exact absurd hi' hi; exact e3
        by_cases hf : elemB i fz = true
        · rw [if_pos hf] at hz'
          obtain ⟨ob1, q1, q2, _⟩ := rowsB_get hrow i ((elemB_iff _ _).1 hf)
          rw [e1] at q1; cases q1
          rw [hz'] at q2; cases q2
        · rw [if_neg hf] at hz'
          obtain ⟨w2, w3⟩ := h.wr i ob0 b e1 e3 hz'
          refine ⟨?_, w3⟩
          rintro (hb | ⟨j, hj, ej⟩)
          · exact w2 hb
          · have := h.inj i j b e3 ej
            subst this
            exact hf ((elemB_iff _ _).2 hj)
    · intro i ob' b e e2 hz'
      rcases hown i ob' e with ⟨rfl, rfl⟩ | ⟨hi, ob0, e1, rfl⟩
      · rw [hz] at hz'; cases hz'
      · have e3 : μ i = some b := by rcases hμ' i b e2 with ⟨hi', _⟩ | ⟨_, e3⟩; exact absurd hi' hi; exact e3
        by_cases hf : elemB i fz = true
        · exact .inr ⟨i, (elemB_iff _ _).1 hf, e3⟩
        · rw [if_neg hf] at hz'
          exact .inl (h.fz i ob0 b e1 e3 hz')
    · intro i j b ei ej
      rcases hμ' i b ei with ⟨hi, hb⟩ | ⟨hi, ei⟩ <;> rcases hμ' j b ej with ⟨hj, hb'⟩ | ⟨hj, ej⟩
      · rw [hi, hj]
      · exact absurd hb (hne j b ej)
      · exact absurd hb' (hne i b ei)
      · exact h.inj i j b ei ej
    · intro i b e
      rcases hμ' i b e with ⟨rfl, rfl⟩ | ⟨hi, e⟩
      · exact ⟨by simp, by simp [VSt.push], o, by simp [VSt.push, aget_cons], hn⟩
      · obtain ⟨d1, d2, ob0, d3, d4⟩ := h.dom i b e
        refine ⟨by simp only; omega, by simp only [VSt.push]; omega, (if elemB i fz then ob0.froz else ob0), ?_, ?_⟩
        · simp only [VSt.push]
          rw [aget_cons, if_neg hi, frozA_get, d3]; rfl
        · split
          · rw [froz_none]; exact d4
          · exact d4
    · intro b hb
      have hlt := hF b hb
      refine ⟨by simp only; omega, ?_⟩
      simp only
      rw [hget' b hlt]
      rcases hb with hb | ⟨i, _, e⟩
      · exact (h.lt b hb).2
      · obtain ⟨_, _, ob0, d3, d4⟩ := h.dom i b e
        obtain ⟨b', blk0, m1, m2, _⟩ := h.obj i ob0 d3 d4
        rw [e] at m1; cases m1
        exact ⟨blk0, m2⟩
    · intro b hb
      have hlt := hF b hb
      simp only
      rw [hget' b hlt]
      rcases hb with hb | ⟨i, hi, e⟩
      · obtain ⟨blk0, c1, c2⟩ := h.cl b hb
        exact ⟨blk0, c1, fun n j hj => .inl (c2 n j hj)⟩
      · obtain ⟨ob0, q1, q2, _⟩ := rowsB_get hrow i hi
        obtain ⟨blk0, c1, c2⟩ := h.row_cl q1 q2 e
        exact ⟨blk0, c1, fun n j hj => .inl (c2 n j hj)⟩
    · intro b hb
      obtain ⟨u1, u2⟩ := h.un b hb
      exact ⟨u1, by simp only; rw [hget' b (by have := h.n0; omega)]; exact u2⟩
    · have := h.n0; simp only; omega
    · intro i ob' e
      rcases hown i ob' e with ⟨rfl, rfl⟩ | ⟨hi, ob0, e1, rfl⟩
      · exact ⟨by simp [VSt.push], hok⟩
      · obtain ⟨o1, o2⟩ := h.own i ob0 e1
        refine ⟨by simp only [VSt.push]; omega, ?_⟩
        split
        · rw [froz_ok]; exact o2
        · exact o2
    · intro b blk' e
      simp only at e ⊢
      rw [hget_cons] at e
      split at e
      · omega
      · have := h.hb b blk' e; omega
    · have := h.pr; simp only; omega
    · intro i b e hi
      rcases hμ' i b e with ⟨rfl, rfl⟩ | ⟨_, e⟩
      · exact h.pr
      · exact h.pb i b e hi
    · rintro b (hb | hb)
      · exact .inl hb
      · exact h.fin_ge hrow (.inr hb)
/-- an object written, others finished -/
theorem SR.upd (h : SR C st s μ F) {o b : Nat} {ob : Obj} {blk : Blk} (ho : aget st.own o = some ob) (hz : ob.fz = false) (hro : st.ro ≤ o) (hμ : μ o = some b) (hbk : hget s.heap b = some blk) {fz : List Nat} (hrow : rowsB st.ro st.own fz = true) (hof : o ∉ fz)
    {ob' : Obj} {blk' : Blk} (hn' : ob'.none = false) (hz' : ob'.fz = false) (hok : ob'.ok = true) (hrep : ∀ w', VW.le (wof C st s μ F) w' → Fin (wof C st s μ F) w' fz → LdX s.heap (wof C st s μ F) w' fz → ORep w' ob' blk') :
    SR C ⟨aset (frozA fz st.own) o ob', st.next, st.ro⟩ { s with heap := hset s.heap b blk' } μ (FinF μ F fz) ∧ VW.le (wof C st s μ F) (wof C ⟨aset (frozA fz st.own) o ob', st.next, st.ro⟩ { s with heap := hset s.heap b blk' } μ (FinF μ F fz)) ∧ s.prot ≤ b := by
  obtain ⟨wr2, wr1'⟩ := h.wr o ob b ho hμ hz
  obtain ⟨wr1, wr3⟩ := wr1' hro
  have hFb : ¬ FinF μ F fz b := by
    rintro (hb | ⟨j, hj, ej⟩)
    · exact wr2 hb
    · have := h.inj o j b hμ ej
      subst this
      exact hof hj
  have hgs : ∀ j, hget (hset s.heap b blk') j = if j = b then some blk' else hget s.heap j := fun j => hget_hset _ _ _ _ _ hbk
  have hle : VW.le (wof C st s μ F) (wof C ⟨aset (frozA fz st.own) o ob', st.next, st.ro⟩ { s with heap := hset s.heap b blk' } μ (FinF μ F fz)) := by
    refine ⟨fun a i => ?_, fun c hc => .inl hc, Nat.le_refl _, fun i c _ e => e⟩
    obtain ⟨c, k, sp⟩ := a
    cases sp with
    | none => rfl
    | some sp =>
      have hcb : c ≠ b := fun e => by subst e; exact wr2 i
      simp only [aload, hgs c, if_neg hcb]
  have hrp := hrep _ hle (fun i hi c e => .inr ⟨i, hi, e⟩) (fun i hi c e k sp blk0 hc => by
    have hcb : c ≠ b := fun e' => by subst e'; exact hFb (.inr ⟨i, hi, e⟩)
    simp only [aload, hgs c, if_neg hcb, hc, Option.bind_some, lget_eq])
  have hfo : ∃ x, aget (frozA fz st.own) o = some x := by rw [frozA_get, ho]; exact ⟨_, rfl⟩
  obtain ⟨x0, hx0⟩ := hfo
  have hown : ∀ i obj, aget (aset (frozA fz st.own) o ob') i = some obj → (i = o ∧ obj = ob') ∨ (i ≠ o ∧ ∃ ob0, aget st.own i = some ob0 ∧ obj = if elemB i fz then ob0.froz else ob0) := fun i obj e => by
    rw [aget_aset _ _ _ _ _ hx0] at e
    split at e
    · rename_i hi; cases e; exact .inl ⟨hi, rfl⟩
    · rename_i hi
      rw [frozA_get] at e
      simp only [Option.map_eq_some_iff] at e
      obtain ⟨ob0, e1, e2⟩ := e
      exact .inr ⟨hi, ob0, e1, e2.symm⟩
  have hne : ∀ i c, i ≠ o → μ i = some c → c ≠ b := fun i c hi e hc => by subst hc; exact hi (h.inj i o c e hμ)
  refine ⟨⟨?_, ?_, ?_, h.inj, ?_, ?_, ?_, ?_, h.n0, ?_, ?_, h.pr, h.pb⟩, hle, wr1⟩
  · intro i obj e hn
    rcases hown i obj e with ⟨rfl, rfl⟩ | ⟨hi, ob0, e1, rfl⟩
    · exact ⟨b, blk', hμ, by simp only; rw [hgs, if_pos rfl], hrp⟩
    · have hn0 : ob0.none = false := by split at hn; (rw [froz_none] at hn; exact hn); exact hn
      obtain ⟨c, blk0, m1, m2, m3⟩ := h.obj i ob0 e1 hn0
      refine ⟨c, blk0, m1, by simp only; rw [hgs, if_neg (hne i c hi m1)]; exact m2, ?_⟩
      split
      · exact froz_rep (m3.mono hle)
      · exact m3.mono hle
  · intro i obj c e e3 hzz
    rcases hown i obj e with ⟨rfl, rfl⟩ | ⟨hi, ob0, e1, rfl⟩
    · rw [hμ] at e3; cases e3; exact ⟨hFb, fun _ => ⟨wr1, wr3⟩⟩
    · by_cases hf : elemB i fz = true
      · rw [if_pos hf] at hzz
        obtain ⟨ob1, q1, q2, _⟩ := rowsB_get hrow i ((elemB_iff _ _).1 hf)
        rw [e1] at q1; cases q1
        rw [hzz] at q2; cases q2
      · rw [if_neg hf] at hzz
        obtain ⟨w2, w3⟩ := h.wr i ob0 c e1 e3 hzz
        refine ⟨?_, w3⟩
        rintro (hb | ⟨j, hj, ej⟩)
        · exact w2 hb
        · have := h.inj i j c e3 ej
          subst this
          exact hf ((elemB_iff _ _).2 hj)
  · intro i obj c e e3 hzz
    rcases hown i obj e with ⟨rfl, rfl⟩ | ⟨hi, ob0, e1, rfl⟩
    · rw [hz'] at hzz; cases hzz
    · by_cases hf : elemB i fz = true
      · exact .inr ⟨i, (elemB_iff _ _).1 hf, e3⟩
      · rw [if_neg hf] at hzz
        exact .inl (h.fz i ob0 c e1 e3 hzz)
  · intro i c e
    obtain ⟨d1, d2, ob0, d3, d4⟩ := h.dom i c e
    refine ⟨d1, d2, ?_⟩
    by_cases hi : i = o
    · subst hi
      exact ⟨ob', by simp only; rw [aget_aset _ _ _ _ _ hx0, if_pos rfl], hn'⟩
    · refine ⟨(if elemB i fz then ob0.froz else ob0), by simp only; rw [aget_aset _ _ _ _ _ hx0, if_neg hi, frozA_get, d3]; rfl, ?_⟩
      split
      · rw [froz_none]; exact d4
      · exact d4
  · intro c hc
    have hcb : c ≠ b := fun e => by subst e; exact hFb hc
    simp only
    rw [hgs, if_neg hcb]
    rcases hc with hc | ⟨i, _, e⟩
    · exact h.lt c hc
    · obtain ⟨d1, _, ob0, d3, d4⟩ := h.dom i c e
      obtain ⟨b', blk0, m1, m2, _⟩ := h.obj i ob0 d3 d4
      rw [e] at m1; cases m1
      exact ⟨d1, blk0, m2⟩
  · intro c hc
    have hcb : c ≠ b := fun e => by subst e; exact hFb hc
    simp only
    rw [hgs, if_neg hcb]
    rcases hc with hc | ⟨i, hi, e⟩
    · obtain ⟨blk0, c1, c2⟩ := h.cl c hc
      exact ⟨blk0, c1, fun n j hj => .inl (c2 n j hj)⟩
    · obtain ⟨ob0, q1, q2, _⟩ := rowsB_get hrow i hi
      obtain ⟨blk0, c1, c2⟩ := h.row_cl q1 q2 e
      exact ⟨blk0, c1, fun n j hj => .inl (c2 n j hj)⟩
  · intro c hc
    obtain ⟨u1, u2⟩ := h.un c hc
    have hcb : c ≠ b := fun e => by subst e; exact wr3 hc
    exact ⟨u1, by simp only; rw [hgs, if_neg hcb]; exact u2⟩
  · intro i obj e
    rcases hown i obj e with ⟨rfl, rfl⟩ | ⟨hi, ob0, e1, rfl⟩
    · exact ⟨(h.own i ob ho).1, hok⟩
    · obtain ⟨o1, o2⟩ := h.own i ob0 e1
      refine ⟨o1, ?_⟩
      split
      · rw [froz_ok]; exact o2
      · exact o2
  · intro c blk0 e
    simp only at e ⊢
    rw [hgs] at e
    split at e
    · rename_i hc; subst hc; exact h.hb c blk hbk
    · exact h.hb c blk0 e
theorem hget_hdel_ne : ∀ (h : Heap) (i j : Nat), j ≠ i → hget (hdel h i) j = hget h j
  | [], i, j, _ => rfl
  | (k, u) :: r, i, j, hj => by
    simp only [hdel]
    split
    · rename_i hk
      have := nbeq.1 hk
      subst this
      rw [hget_cons, if_neg hj]
    · rw [hget_cons, hget_cons, hget_hdel_ne r i j hj]
theorem hget_hdel_some : ∀ (h : Heap) (i j : Nat) (b : Blk), hget (hdel h i) j = some b → ∃ c, hget h j = some c
  | [], i, j, b, h => by cases h
  | (k, u) :: r, i, j, b, h => by
    simp only [hdel] at h
    rw [hget_cons]
    split at h
    · split
      · exact ⟨_, rfl⟩
      · exact ⟨_, h⟩
    · rw [hget_cons] at h
      split
      · exact ⟨_, rfl⟩
      · rename_i hj
        rw [if_neg hj] at h
        exact hget_hdel_some r i j b h
/-- an object given up -/
theorem SR.del (h : SR C st s μ F) {o b : Nat} {ob : Obj} (ho : aget st.own o = some ob) (hz : ob.fz = false) (hro : st.ro ≤ o) (hμ : μ o = some b) :
    SR C ⟨adel o st.own, st.next, st.ro⟩ { s with heap := hdel s.heap b } (fun i => if i = o then none else μ i) F ∧ VW.le (wof C st s μ F) (wof C ⟨adel o st.own, st.next, st.ro⟩ { s with heap := hdel s.heap b } (fun i => if i = o then none else μ i) F) ∧ s.prot ≤ b := by
  obtain ⟨wr2, wr1'⟩ := h.wr o ob b ho hμ hz
  obtain ⟨wr1, wr3⟩ := wr1' hro
  have hle : VW.le (wof C st s μ F) (wof C ⟨adel o st.own, st.next, st.ro⟩ { s with heap := hdel s.heap b } (fun i => if i = o then none else μ i) F) := by
    refine ⟨fun a i => ?_, fun c hc => hc, Nat.le_refl _, fun i c _ e => ?_⟩
    · obtain ⟨c, k, sp⟩ := a
      cases sp with
      | none => rfl
      | some sp =>
        have hcb : c ≠ b := fun e => by subst e; exact wr2 i
        simp only [aload, hget_hdel_ne _ _ _ hcb]
    · simp only at e
      split at e
      · cases e
      · exact e
  have hown : ∀ i obj, aget (adel o st.own) i = some obj → i ≠ o ∧ aget st.own i = some obj := fun i obj e => by
    rw [aget_adel] at e
    split at e
    · cases e
    · rename_i hi; exact ⟨hi, e⟩
  have hne : ∀ i c, i ≠ o → μ i = some c → c ≠ b := fun i c hi e hc => by subst hc; exact hi (h.inj i o c e hμ)
  refine ⟨⟨?_, ?_, ?_, ?_, ?_, ?_, ?_, ?_, h.n0, ?_, ?_, h.pr, fun i c e hi => ?_⟩, hle, wr1⟩
  · intro i obj e hn
    obtain ⟨hi, e1⟩ := hown i obj e
    obtain ⟨c, blk0, m1, m2, m3⟩ := h.obj i obj e1 hn
    exact ⟨c, blk0, by rw [if_neg hi]; exact m1, by simp only; rw [hget_hdel_ne _ _ _ (hne i c hi m1)]; exact m2, m3.mono hle⟩
  · intro i obj c e e3 hzz
    obtain ⟨hi, e1⟩ := hown i obj e
    simp only [if_neg hi] at e3
    exact h.wr i obj c e1 e3 hzz
  · intro i obj c e e3 hzz
    obtain ⟨hi, e1⟩ := hown i obj e
    simp only [if_neg hi] at e3
    exact h.fz i obj c e1 e3 hzz
  · intro i j c e1 e2
    split at e1
    · cases e1
    · split at e2
      · cases e2
      · exact h.inj i j c e1 e2
  · intro i c e
    split at e
    · cases e
    · rename_i hi
      obtain ⟨d1, d2, ob0, d3, d4⟩ := h.dom i c e
      exact ⟨d1, d2, ob0, by simp only; rw [aget_adel, if_neg hi]; exact d3, d4⟩
  · intro c hc
    have hcb : c ≠ b := fun e => by subst e; exact wr2 hc
    rw [hget_hdel_ne _ _ _ hcb]
    exact h.lt c hc
  · intro c hc
    have hcb : c ≠ b := fun e => by subst e; exact wr2 hc
    rw [hget_hdel_ne _ _ _ hcb]
    exact h.cl c hc
  · intro c hc
    obtain ⟨u1, u2⟩ := h.un c hc
    have hcb : c ≠ b := fun e => by subst e; exact wr3 hc
    exact ⟨u1, by simp only; rw [hget_hdel_ne _ _ _ hcb]; exact u2⟩
  · intro i obj e
    obtain ⟨hi, e1⟩ := hown i obj e
    exact h.own i obj e1
  · intro c blk0 e
    obtain ⟨c', e'⟩ := hget_hdel_some _ _ _ _ e
    exact h.hb c c' e'
  · split at e
    · cases e
    · exact h.pb i c e hi
end
end Go.Itp
/-
  The operations that write; every operation.
-/
namespace Go.Itp
set_option linter.unusedVariables false
set_option linter.constructorNameAsVariable false
section
variable {C : Ctx} {st st' : VSt} {s : St} {μ : Nat → Option Nat} {F : Nat → Prop} {fr : VFr} {frI : Fr} {v : V}

theorem putL_len {α : Type} : ∀ {l : List α} {k : Nat} {cs r : List α}, putL l k cs = some r → r.length = l.length
  | l, k, [], r, h => by
    have : r = l := by cases l <;> cases k <;> simp [putL] at h <;> first | exact h | exact h.symm
    rw [this]
  | [], k, c :: cs, r, h => by cases k <;> simp [putL] at h
  | x :: l, 0, c :: cs, r, h => by
    simp only [putL, Option.map_eq_some_iff] at h
    obtain ⟨r', h1, rfl⟩ := h
    simp [putL_len h1]
  | x :: l, k + 1, c :: cs, r, h => by
    simp only [putL, Option.map_eq_some_iff] at h
    obtain ⟨r', h1, rfl⟩ := h
    simp [putL_len h1]
theorem lput_any {α : Type} : ∀ {l : List α} {k : Nat} {cs r : List α} {ls vs : List Value}, putL l k cs = some r → ls.length = l.length → vs.length = cs.length → ∃ rs, lput ls k vs = some rs
  | l, k, [], r, ls, vs, h, h1, h2 => by
    have := List.eq_nil_of_length_eq_zero h2
    subst this
    exact ⟨ls, by cases ls <;> cases k <;> rfl⟩
  | [], k, c :: cs, r, ls, vs, h, h1, h2 => by cases k <;> simp [putL] at h
  | x :: l, k, c :: cs, r, [], vs, h, h1, h2 => by simp at h1
  | x :: l, k, c :: cs, r, y :: ls, [], h, h1, h2 => by simp at h2
  | x :: l, 0, c :: cs, r, y :: ls, z :: vs, h, h1, h2 => by
    simp only [putL, Option.map_eq_some_iff] at h
    obtain ⟨r', hr', rfl⟩ := h
    obtain ⟨rs, g1⟩ := lput_any hr' (by simpa using h1) (by simpa using h2)
    exact ⟨z :: rs, by simp [lput, g1]⟩
  | x :: l, k + 1, c :: cs, r, y :: ls, z :: vs, h, h1, h2 => by
    simp only [putL, Option.map_eq_some_iff] at h
    obtain ⟨r', hr', rfl⟩ := h
    obtain ⟨rs, g1⟩ := lput_any (cs := c :: cs) (vs := z :: vs) hr' (by simpa using h1) (by simpa using h2)
    exact ⟨y :: rs, by simp [lput, g1]⟩
theorem VW.le.refl (w : VW) : VW.le w w := ⟨fun _ _ => rfl, fun _ h => h, Nat.le_refl _, fun _ _ _ h => h⟩
theorem VW.le.trans {a b c : VW} (h : VW.le a b) (k : VW.le b c) : VW.le a c :=
  ⟨fun x i => (k.ld x (h.inF i)).trans (h.ld x i), fun x i => k.F x (h.F x i), Nat.le_trans h.nx k.nx, fun o x ho e => h.μ o x ho (k.μ o x (Nat.lt_of_lt_of_le ho h.nx) e)⟩
/-- what an operation leads to -/
def Stp (C : Ctx) (st : VSt) (s : St) (μ : Nat → Option Nat) (F : Nat → Prop) (r : Option (Value × St)) (v : V) (st' : VSt) : Prop :=
  ∃ vI s' μ' F', r = some (vI, s') ∧ SR C st' s' μ' F' ∧ VRep (wof C st' s' μ' F') v vI ∧ VW.le (wof C st s μ F) (wof C st' s' μ' F') ∧ s'.prot = s.prot ∧ s.next ≤ s'.next ∧ ∀ b, F' b → F b ∨ s.prot ≤ b
theorem astore_ok {b k : Nat} {blk : Blk} {vs cs : List Value} (hb : hget s.heap b = some blk) (hp : s.prot ≤ b) (h1 : vs.all oneCell = true) (hl : lput blk.cells k vs = some cs) (sp : Nat) :
    astore s ⟨b, k, some sp⟩ vs = some { s with heap := hset s.heap b { blk with cells := cs } } := by
  simp only [astore, hb, Option.bind_some]
  rw [if_pos (by rw [Nat.ble_eq]; exact hp), if_pos h1, hl]
  rfl
theorem step_w {E : Env} {op : AOp} {r : Option (Value × St)} (h1 : pstep E frI s op = none) (h2 : wstep E frI s op = r) : step E frI s op = r := by
  simp only [step, h1, h2]
theorem nbf {i j : Nat} : Nat.beq i j = false ↔ i ≠ j := by rw [← Bool.not_eq_true, nbeq]
theorem bleF {i j : Nat} : (!Nat.ble i j) = false ↔ i ≤ j := by
  rw [Bool.not_eq_false', Nat.ble_eq]
def storeR (s : St) (n : Nat) (aI uI : Value) : Option (Value × St) :=
  match aI with
  | .pointer (some a) => if Nat.beq uI.cells.toList.length n then (astore s a uI.cells.toList).map (.tuple #[], ·) else none
  | _ => none
def copyR (E : Env) (s : St) (e : Nat) (dI xI : Value) : Option (Value × St) :=
  match dI with
  | .slice a n _ => (lenA xI).bind fun m => (srcCells E s.heap e (Nat.min m n) xI).bind fun cs =>
      match a with
      | some a => (astore s a cs).map (.int .i64 (Nat.min m n), ·)
      | none => some (.int .i64 (Nat.min m n), s)
  | _ => none
theorem vstore_ok (h : SR C st s μ F) {n : Nat} {a u : V} {aI uI : Value} (ha : VRep (wof C st s μ F) a aI) (hu : VRep (wof C st s μ F) u uI) (hs : vstore st n a u = some st') :
    Stp C st s μ F (storeR s n aI uI) (.tup []) st' := by
  simp only [vstore, Option.bind_eq_some_iff] at hs
  obtain ⟨cs, hc, hs⟩ := hs
  split at hs
  case isFalse => cases hs
  rename_i hn
  obtain ⟨c1, c2⟩ := vcells_rep hu hc
  have hone := c1.one c2
  split at hs
  case h_2 => cases hs
  rename_i o k
  split at hs
  · cases hs
  rename_i hro
  simp only [Bool.not_eq_true, bleF] at hro
  simp only [VRep] at ha
  obtain ⟨_, b', rfl, q⟩ := ha
  have htup : ∀ w : VW, VRep w (.tup []) (.tuple #[]) := fun w => by simp only [VRep, VRepL]; exact ⟨[], rfl, rfl⟩
  have fin : ∀ {ob : Obj} {b : Nat} {blk : Blk} {fz : List Nat} {ob' : Obj} {cs' : List Value}, aget st.own o = some ob → ob.fz = false → μ o = some b → hget s.heap b = some blk → rowsB st.ro st.own fz = true → o ∉ fz → ob'.none = false → ob'.fz = false → ob'.ok = true →
      lput blk.cells k uI.cells.toList = some cs' → (∀ w', VW.le (wof C st s μ F) w' → Fin (wof C st s μ F) w' fz → LdX s.heap (wof C st s μ F) w' fz → ORep w' ob' { blk with cells := cs' }) → st' = ⟨aset (frozA fz st.own) o ob', st.next, st.ro⟩ →
      Stp C st s μ F (if Nat.beq uI.cells.toList.length n then (astore s ⟨b', k, some 0⟩ uI.cells.toList).map (.tuple #[], ·) else none) (.tup []) st' := by
    intro ob b blk fz ob' cs' e1 e2 e3 e4 e5 e6 e7 e8 e9 e10 e11 e12
    have := q b e3
    subst this
    obtain ⟨g1, g2, g3⟩ := h.upd e1 e2 hro e3 e4 e5 e6 e7 e8 e9 e11
    subst e12
    refine ⟨.tuple #[], _, μ, FinF μ F fz, ?_, g1, htup _, g2, rfl, Nat.le_refl _, fun c hcf => h.fin_ge e5 hcf⟩
    rw [c1.length, if_pos hn, astore_ok e4 g3 hone e10]
    rfl
  split at hs
  · rename_i t e0 l ho
    simp only [Option.map_eq_some_iff] at hs
    obtain ⟨l', hl, rfl⟩ := hs
    obtain ⟨b, blk, m1, m2, m3⟩ := h.obj o _ ho rfl
    obtain ⟨rs, r1, r2⟩ := putL_ok hl m3.2.2.2 c1
    exact fin (fz := []) (ob' := .box t e0 l') ho rfl m1 m2 rfl (by simp) rfl rfl rfl r1 (fun w' k1 k2 k3 => ⟨m3.1, m3.2.1, m3.2.2.1, r2.mono k1⟩) (by rw [frozA_nil])
  · rename_i t e g z l ho
    split at hs
    · cases hs
    rename_i hcond
    simp only [Bool.or_eq_true, Bool.not_eq_true', not_or, Bool.not_eq_true, Bool.not_eq_false] at hcond
    obtain ⟨⟨hz, hof⟩, hrow⟩ := hcond
    simp only [Option.bind_eq_some_iff, Option.map_eq_some_iff] at hs
    obtain ⟨ds, hd, l', hl, rfl⟩ := hs
    obtain ⟨b, blk, m1, m2, m3⟩ := h.obj o _ ho rfl
    have hds : ∀ w', VW.le (wof C st s μ F) w' → Fin (wof C st s μ F) w' (fzL cs) → LdX s.heap (wof C st s μ F) w' (fzL cs) → ∃ rs, lput blk.cells k uI.cells.toList = some rs ∧ DRepL w' l' rs := fun w' k1 k2 k3 => putD_ok hl (m3.2.2.2.mono k1) (toDL_ok h.hr k1 c1 hd k2 k3).1
    have hlen : ∃ rs, lput blk.cells k uI.cells.toList = some rs := lput_any hl m3.2.2.2.length (by rw [c1.length, toDL_len hd])
    obtain ⟨rs, hrs⟩ := hlen
    refine fin (fz := fzL cs) (ob' := .row t e g false l') ho hz m1 m2 hrow (fun hm => by have := (elemB_iff _ _).2 hm; rw [hof] at this; cases this) rfl rfl ?_ hrs (fun w' k1 k2 k3 => ?_) rfl
    · exact putL_okL hl (h.own o _ ho).2 (toDL_okL hd)
    · obtain ⟨rs', q1, q2⟩ := hds w' k1 k2 k3
      rw [hrs] at q1; cases q1
      exact ⟨m3.1, m3.2.1, m3.2.2.1, q2⟩
  · rename_i t e z l ho
    split at hs
    · cases hs
    rename_i hcond
    simp only [Bool.or_eq_true, Bool.not_eq_true', not_or, Bool.not_eq_true, Bool.not_eq_false] at hcond
    obtain ⟨⟨⟨hz, hof⟩, hce⟩, hrow⟩ := hcond
    simp only [Option.bind_eq_some_iff, Option.map_eq_some_iff] at hs
    obtain ⟨ds, hd, l', hl, rfl⟩ := hs
    have hl0 : l ≠ [] ∧ l'.length = l.length := by
      refine ⟨fun e0 => ?_, putL_len hl⟩
      subst e0
      cases ds with
      | nil => have := toDL_len hd; cases cs with | nil => cases hce | cons => simp at this
      | cons => cases k <;> simp [putL] at hl
    obtain ⟨b, blk, m1, m2, m3⟩ := h.obj o _ ho (by cases l with | nil => exact absurd rfl hl0.1 | cons => rfl)
    have hds : ∀ w', VW.le (wof C st s μ F) w' → Fin (wof C st s μ F) w' (fzL cs) → LdX s.heap (wof C st s μ F) w' (fzL cs) → ∃ rs, lput blk.cells k uI.cells.toList = some rs ∧ DRepL w' l' rs := fun w' k1 k2 k3 => putD_ok hl (m3.2.2.2.mono k1) (toDL_ok h.hr k1 c1 hd k2 k3).1
    have hlen : ∃ rs, lput blk.cells k uI.cells.toList = some rs := lput_any hl m3.2.2.2.length (by rw [c1.length, toDL_len hd])
    obtain ⟨rs, hrs⟩ := hlen
    refine fin (fz := fzL cs) (ob' := .gro t e false l') ho hz m1 m2 hrow (fun hm => by have := (elemB_iff _ _).2 hm; rw [hof] at this; cases this) ?_ rfl ?_ hrs (fun w' k1 k2 k3 => ?_) rfl
    · cases l' with
      | nil => exact absurd (List.eq_nil_of_length_eq_zero hl0.2.symm) hl0.1
      | cons => rfl
    · exact putL_okL hl (h.own o _ ho).2 (toDL_okL hd)
    · obtain ⟨rs', q1, q2⟩ := hds w' k1 k2 k3
      rw [hrs] at q1; cases q1
      exact ⟨m3.1, m3.2.1, m3.2.2.1, q2⟩
  · cases hs
theorem rowsB_del {ro o : Nat} {H : VHp} : ∀ {fz : List Nat}, rowsB ro H fz = true → elemB o fz = false → rowsB ro (adel o H) fz = true
  | [], _, _ => rfl
  | i :: r, h, hn => by
    simp only [rowsB, Bool.and_eq_true] at h ⊢
    simp only [elemB] at hn
    split at hn
    · cases hn
    rename_i hi
    rw [nbeq] at hi
    refine ⟨⟨h.1.1, ?_⟩, rowsB_del h.2 hn⟩
    rw [aget_adel, if_neg (fun e => hi e.symm)]
    exact h.1.2
/-- a slice that has grown, with more behind it -/
theorem SR.grow (h : SR C st s μ F) {o b : Nat} {ob : Obj} {blk : Blk} (ho : aget st.own o = some ob) (hz : ob.fz = false) (hro : st.ro ≤ o) (hμ : μ o = some b) (hb : hget s.heap b = some blk) {t : TypeId} {e m : Nat} {l : List D} {cs : List Value} {fz : List Nat}
    (hl : l ≠ []) (hok : okL l = true) (hm : m ≠ 0) (hrow : rowsB st.ro st.own fz = true) (hof : elemB o fz = false) (hr : ∀ w', VW.le (wof C st s μ F) w' → Fin (wof C st s μ F) w' fz → LdX s.heap (wof C st s μ F) w' fz → DRepL w' l cs) :
    Stp C st s μ F (some (.slice (some ⟨s.next, 0, some 0⟩) m (big + m), St.push { s with heap := hdel s.heap b } [⟨cs, e, true, t⟩])) (.gr 2 st.next m) ⟨(st.next, .gro t e false l) :: frozA fz (adel o st.own), st.next + 1, st.ro⟩ ∧ s.prot ≤ b := by
  obtain ⟨d1, d2, d3⟩ := h.del ho hz hro hμ
  have hP : POut (hdel s.heap b) (wof C ⟨adel o st.own, st.next, st.ro⟩ { s with heap := hdel s.heap b } (fun i => if i = o then none else μ i) F) s.next (.gr 2 st.next m) (some (.gro t e false l)) fz (.slice (some ⟨s.next, 0, some 0⟩) m (big + m)) [⟨cs, e, true, t⟩] :=
    ⟨by cases l with | nil => exact absurd rfl hl | cons => rfl, rfl, hok, _, rfl, fun w' k1 k2 k3 k4 k5 => ⟨.gr_new k4 k5 m hm, rfl, rfl, rfl, hr w' (d2.trans k1) (fun i hi c e => by
      refine k2 i hi c ?_
      have hio : i ≠ o := fun e => by subst e; have := (elemB_iff i fz).2 hi; rw [hof] at this; cases this
      simp only [if_neg hio]; exact e) (fun i hi c e k sp bb hbb => by
      have hio : i ≠ o := fun e => by subst e; have := (elemB_iff i fz).2 hi; rw [hof] at this; cases this
      have hcb : c ≠ b := fun ec => by subst ec; exact hio (h.inj i o c e hμ)
      exact k3 i hi c (by simp only [if_neg hio]; exact e) k sp bb (by rw [hget_hdel_ne _ _ _ hcb]; exact hbb))⟩⟩
  obtain ⟨p1, p2, p3, p4⟩ := d1.push hP (rowsB_del hrow hof)
  exact ⟨⟨_, _, _, _, rfl, p1, p2, d2.trans p3, rfl, by simp [St.push], p4⟩, d3⟩
theorem gro_some {t : TypeId} {e : Nat} {z : Bool} {l : List D} (h : l ≠ []) : (Obj.gro t e z l).none = false := by
  cases l with
  | nil => exact absurd rfl h
  | cons => rfl
/-- an object without a block left out -/
theorem SR.drop0 (h : SR C st s μ F) {o : Nat} {ob : Obj} (ho : aget st.own o = some ob) (hn : ob.none = true) : SR C ⟨adel o st.own, st.next, st.ro⟩ s μ F := by
  have hown : ∀ i obj, aget (adel o st.own) i = some obj → i ≠ o ∧ aget st.own i = some obj := fun i obj e => by
    rw [aget_adel] at e
    split at e
    · cases e
    · rename_i hi; exact ⟨hi, e⟩
  refine ⟨fun i obj e hh => h.obj i obj (hown i obj e).2 hh, fun i obj b e => h.wr i obj b (hown i obj e).2, fun i obj b e => h.fz i obj b (hown i obj e).2, h.inj, fun i b e => ?_, h.lt, h.cl, h.un, h.n0, fun i obj e => h.own i obj (hown i obj e).2, h.hb, h.pr, h.pb⟩
  obtain ⟨d1, d2, ob', d3, d4⟩ := h.dom i b e
  refine ⟨d1, d2, ob', ?_, d4⟩
  simp only
  rw [aget_adel, if_neg]
  · exact d3
  · intro hi
    subst hi
    rw [ho] at d3
    cases d3
    rw [hn] at d4
    cases d4
/-- an object under a new number -/
theorem SR.rename (h : SR C st s μ F) {o : Nat} {ob : Obj} (ho : aget st.own o = some ob) (hro : st.ro ≤ o) :
    SR C ⟨(st.next, ob) :: adel o st.own, st.next + 1, st.ro⟩ s (fun i => if i = st.next then μ o else if i = o then none else μ i) F ∧ VW.le (wof C st s μ F) (wof C ⟨(st.next, ob) :: adel o st.own, st.next + 1, st.ro⟩ s (fun i => if i = st.next then μ o else if i = o then none else μ i) F) := by
  have hon : o < st.next := (h.own o ob ho).1
  have hle : VW.le (wof C st s μ F) (wof C ⟨(st.next, ob) :: adel o st.own, st.next + 1, st.ro⟩ s (fun i => if i = st.next then μ o else if i = o then none else μ i) F) := by
    refine ⟨fun _ _ => rfl, fun _ h => h, Nat.le_succ _, fun i b hi e => ?_⟩
    simp only at hi e
    rw [if_neg (by omega)] at e
    split at e
    · cases e
    · exact e
  have hown : ∀ i obj, aget ((st.next, ob) :: adel o st.own) i = some obj → (i = st.next ∧ obj = ob) ∨ (i ≠ st.next ∧ i ≠ o ∧ aget st.own i = some obj) := fun i obj e => by
    rw [aget_cons] at e
    split at e
    · rename_i hi; cases e; exact .inl ⟨hi, rfl⟩
    · rename_i hi
      rw [aget_adel] at e
      split at e
      · cases e
      · rename_i hi2; exact .inr ⟨hi, hi2, e⟩
  have hmu : ∀ i b, (if i = st.next then μ o else if i = o then none else μ i) = some b → (i = st.next ∧ μ o = some b) ∨ (i ≠ st.next ∧ i ≠ o ∧ μ i = some b) := fun i b e => by
    split at e
    · rename_i hi; exact .inl ⟨hi, e⟩
    · rename_i hi
      split at e
      · cases e
      · rename_i hi2; exact .inr ⟨hi, hi2, e⟩
  refine ⟨⟨?_, ?_, ?_, ?_, ?_, h.lt, h.cl, h.un, h.n0, ?_, h.hb, h.pr, ?_⟩, hle⟩
  · intro i obj e hn
    rcases hown i obj e with ⟨rfl, rfl⟩ | ⟨h1, h2, e1⟩
    · obtain ⟨b, blk, m1, m2, m3⟩ := h.obj o _ ho hn
      exact ⟨b, blk, by rw [if_pos rfl]; exact m1, m2, m3.mono hle⟩
    · obtain ⟨b, blk, m1, m2, m3⟩ := h.obj i obj e1 hn
      exact ⟨b, blk, by rw [if_neg h1, if_neg h2]; exact m1, m2, m3.mono hle⟩
  · intro i obj b e e2 hz
    rcases hown i obj e with ⟨rfl, rfl⟩ | ⟨h1, h2, e1⟩
    · rcases hmu _ b e2 with ⟨_, e3⟩ | ⟨h3, _⟩
      · obtain ⟨q1, q2⟩ := h.wr o _ b ho e3 hz
        exact ⟨q1, fun _ => q2 hro⟩
      · exact absurd rfl h3
    · rcases hmu i b e2 with ⟨h3, _⟩ | ⟨_, _, e3⟩
      · exact absurd h3 h1
      · exact h.wr i obj b e1 e3 hz
  · intro i obj b e e2 hz
    rcases hown i obj e with ⟨rfl, rfl⟩ | ⟨h1, h2, e1⟩
    · rcases hmu _ b e2 with ⟨_, e3⟩ | ⟨h3, _⟩
      · exact h.fz o _ b ho e3 hz
      · exact absurd rfl h3
    · rcases hmu i b e2 with ⟨h3, _⟩ | ⟨_, _, e3⟩
      · exact absurd h3 h1
      · exact h.fz i obj b e1 e3 hz
  · intro i j b e e'
    rcases hmu i b e with ⟨h1, e1⟩ | ⟨h1, h2, e1⟩ <;> rcases hmu j b e' with ⟨h3, e3⟩ | ⟨h3, h4, e3⟩
    · rw [h1, h3]
    · exact absurd (h.inj o j b e1 e3).symm h4
    · exact absurd (h.inj i o b e1 e3) h2
    · exact h.inj i j b e1 e3
  · intro i b e
    rcases hmu i b e with ⟨rfl, e1⟩ | ⟨h1, h2, e1⟩
    · obtain ⟨d1, d2, ob', d3, d4⟩ := h.dom o b e1
      rw [ho] at d3
      cases d3
      exact ⟨d1, by simp, ob, by simp only; rw [aget_cons, if_pos rfl], d4⟩
    · obtain ⟨d1, d2, ob', d3, d4⟩ := h.dom i b e1
      exact ⟨d1, by simp only; omega, ob', by simp only; rw [aget_cons, if_neg h1, aget_adel, if_neg h2]; exact d3, d4⟩
  · intro i obj e
    rcases hown i obj e with ⟨rfl, rfl⟩ | ⟨h1, h2, e1⟩
    · exact ⟨by simp, (h.own o _ ho).2⟩
    · exact ⟨by have := (h.own i obj e1).1; simp only; omega, (h.own i obj e1).2⟩
  · intro i b e hr
    rcases hmu i b e with ⟨rfl, e1⟩ | ⟨h1, h2, e1⟩
    · exact h.pb o b e1 hro
    · exact h.pb i b e1 hr
theorem srcD_zero {H : VHp} {e : Nat} {v : V} {r : List D × List Nat} (h : srcD H e 0 v = some r) : r.2 = [] := by
  unfold srcD at h
  split at h
  · split at h
    · cases h; rfl
    · cases h
  · split at h
    · cases h; rfl
    · cases h
  · split at h
    · split at h
      · cases h; rfl
      · cases h
    · split at h
      · cases h; rfl
      · cases h
    · split at h
      · simp only [Option.map_eq_some_iff] at h
        obtain ⟨ds, _, rfl⟩ := h
        simp [fzL]
      · cases h
    · cases h
  · split at h
    · split at h
      · cases h; rfl
      · cases h
    · cases h
  · split at h
    · cases h; rfl
    · cases h
  · split at h
    · cases h; rfl
    · cases h
  · cases h
def appR (E : Env) (s : St) (t : TypeId) (e b : Nat) (x y : Value) : Option (Value × St) :=
  match appP E s t e b x y with
  | some (v, bs) => some (v, s.push bs)
  | none => appA E s t e b x y
theorem appR_none {E : Env} {t : TypeId} {e b : Nat} {x y : Value} (h : appP E s t e b x y = none) : appR E s t e b x y = appA E s t e b x y := by simp only [appR, h]
theorem vappA_ok (h : SR C st s μ F) {t : TypeId} {e b : Nat} {x y : V} {xI yI : Value} (hx : VRep (wof C st s μ F) x xI) (hy : VRep (wof C st s μ F) y yI) (hs : vappA st t e b x y = some (v, st')) :
    Stp C st s μ F (appR C.E s t e b xI yI) v st' := by
  simp only [vappA, Option.bind_eq_some_iff] at hs
  obtain ⟨m, hm, hs⟩ := hs
  obtain ⟨new, hnew, hs⟩ := hs
  split at hs
  case isFalse => cases hs
  rename_i hok
  simp only [Bool.and_eq_true, Bool.not_eq_true', nbf] at hok
  obtain ⟨⟨hok, he0⟩, hrow⟩ := hok
  have hlen := lenS_ok hy hm
  have hml : ∀ k, lenS y = some k → m ≤ k := fun k hk => by rw [hm] at hk; cases hk; exact Nat.le_refl _
  obtain ⟨cs, c1, c0, hone, c2⟩ := srcD_ok h.hr hy hnew hml
  have hnl := srcD_len hnew hml
  have hnn : m ≠ 0 → new.1 ≠ [] := fun hm0 e0 => by
    rw [e0] at hnl
    have := Nat.mul_pos (Nat.pos_of_ne_zero hm0) (Nat.pos_of_ne_zero he0)
    simp at hnl; omega
  split at hs
  · rename_i s' o n
    split at hs
    case h_2 => cases hs
    rename_i t' e' z l ho
    split at hs
    case isFalse => cases hs
    rename_i hc
    simp only [Bool.and_eq_true, Bool.or_eq_true, Bool.not_eq_true', nbf, Nat.ble_eq] at hc
    obtain ⟨⟨⟨⟨⟨⟨⟨⟨hro, hz⟩, hsn⟩, ht⟩, he⟩, hl⟩, hr1⟩, hr2⟩, hof⟩ := hc
    have ht := nbeq.1 ht
    have he := nbeq.1 he
    have hl := nbeq.1 hl
    subst ht he hz
    have hsn : s' = 2 ∨ n ≠ 0 := hsn.imp nbeq.1 id
    cases hs
    have hokl : okL (l ++ new.1) = true := by
      have := (h.own o _ ho).2
      simp only [Obj.ok] at this
      simp only [okL, List.all_append, Bool.and_eq_true]; exact ⟨this, hok⟩
    by_cases hm0 : m = 0
    · subst hm0
      have hn0 : new.1 = [] := List.eq_nil_of_length_eq_zero (by rw [hnl]; simp)
      have hcs0 : cs = [] := List.eq_nil_of_length_eq_zero (by rw [c0, hn0]; rfl)
      have hf0 : new.2 = [] := srcD_zero hnew
      rw [hn0, List.append_nil, Nat.add_zero, hf0, frozA_nil]
      obtain ⟨q1, q2⟩ := h.rename ho hro
      have hx2 : VRep (wof C ⟨(st.next, .gro t' e' false l) :: adel o st.own, st.next + 1, st.ro⟩ s (fun i => if i = st.next then μ o else if i = o then none else μ i) F) (.gr 2 st.next n) xI := by
        simp only [VRep] at hx ⊢
        refine ⟨Nat.lt_succ_self _, ?_⟩
        rcases hx with ⟨_, ⟨hn, rfl | ⟨hs2, _⟩⟩ | ⟨hn, b', rfl, q⟩⟩
        · exact .inl ⟨hn, .inl rfl⟩
        · exact absurd hs2 (by rcases hsn with h | h; exact fun h2 => h2 h; exact absurd hn h)
        · exact .inr ⟨hn, b', rfl, fun b hb => q b (by simpa using hb)⟩
      have hap : appR C.E s t' e' b xI yI = some (xI, s) := by
        have hc : ∃ a c, xI = .slice a n c ∧ n ≤ knownCap c := by
          simp only [VRep] at hx
          rcases hx with ⟨_, ⟨rfl, rfl | ⟨_, a, c, rfl, _⟩⟩ | ⟨hn, b', rfl, _⟩⟩
          · exact ⟨_, _, rfl, Nat.zero_le _⟩
          · exact ⟨_, _, rfl, Nat.zero_le _⟩
          · exact ⟨_, _, rfl, by rw [knownCap_ge (by omega)]; omega⟩
        obtain ⟨a, c, rfl, hc⟩ := hc
        simp only [appR, appP, hlen, Option.bind_some]
        rw [if_pos (show Nat.beq 0 0 = true from rfl), if_pos (by rw [Nat.ble_eq]; exact hc)]
        rfl
      rw [hap]
      exact ⟨xI, s, _, F, rfl, q1, hx2, q2, rfl, Nat.le_refl _, fun b hb => .inl hb⟩
    have h0 : ¬ Nat.beq m 0 = true := by rw [nbeq]; exact hm0
    simp only [VRep] at hx
    rcases hx with ⟨_, ⟨hn, hx⟩ | ⟨hn0, b', rfl, q⟩⟩
    · have hxn : xI = .slice none 0 0 := by
        rcases hx with hx | ⟨hs2, _⟩
        · exact hx
        · exact absurd hs2 (by rcases hsn with h | h; exact fun h2 => h2 h; exact absurd hn h)
      subst hxn hn
      have hl0 : l = [] := List.eq_nil_of_length_eq_zero (by rw [hl]; simp)
      subst hl0
      have d1 := h.drop0 ho rfl
      have hP : POut s.heap (wof C ⟨adel o st.own, st.next, st.ro⟩ s μ F) s.next (.gr 2 st.next m) (some (.gro t' e' false new.1)) new.2 (.slice (some ⟨s.next, 0, some 0⟩) m (big + m)) [⟨cs, e', true, t'⟩] :=
        ⟨gro_some (hnn hm0), rfl, hok, _, rfl, fun w' k1 k2 k3 k4 k5 => ⟨.gr_new k4 k5 m hm0, rfl, rfl, rfl, c2 w' k1 k2 k3⟩⟩
      obtain ⟨p1, p2, p3, p4⟩ := d1.push hP (rowsB_del hrow hof)
      have hap : appR C.E s t' e' b (.slice none 0 0) yI = some (.slice (some ⟨s.next, 0, some 0⟩) m (big + m), s.push [⟨cs, e', true, t'⟩]) := by
        have : appP C.E s t' e' b (.slice none 0 0) yI = some (.slice (some ⟨s.next, 0, some 0⟩) m (big + m), [⟨cs, e', true, t'⟩]) := by
          simp only [appP, hlen, Option.bind_some, Nat.zero_add]
          rw [Nat.zero_add] at hr1 hr2
          rw [if_neg h0, if_pos (by simp only [Bool.and_eq_true, Nat.ble_eq, Nat.blt_eq]; exact ⟨⟨⟨hr1, hr2⟩, by unfold big; omega⟩, by omega⟩), c1]
          simp only [Option.bind_some, srcCells]
          rfl
        simp only [appR, this]
      rw [hap, List.nil_append, Nat.zero_add]
      exact ⟨_, _, _, _, rfl, p1, p2, p3, rfl, by simp [St.push], p4⟩
    have hln : l ≠ [] := fun e0 => by
      rw [e0] at hl
      have := Nat.mul_pos (Nat.pos_of_ne_zero hn0) (Nat.pos_of_ne_zero he0)
      simp at hl; omega
    obtain ⟨b0, blk, m1, m2, m3⟩ := h.obj o _ ho (gro_some hln)
    have := q b0 m1
    subst this
    have hcl := m3.2.2.2.length
    obtain ⟨g1, g2⟩ := h.grow (t := t') (e := e') (m := n + m) (l := l ++ new.1) (fz := new.2) (cs := blk.cells ++ cs) ho rfl hro m1 m2 (by simp [hln]) hokl (by omega) hrow hof (fun w' k1 k2 k3 => (m3.2.2.2.mono k1).append (c2 w' k1 k2 k3))
    have hnb : Nat.blt (big + n) big = false := by rw [← Bool.not_eq_true, Nat.blt_eq]; omega
    rw [appR_none (by
      simp only [appP, hlen, Option.bind_some]
      rw [if_neg h0, if_neg (by simp [hnb])])]
    · have : appA C.E s t' e' b (.slice (some ⟨b', 0, some 0⟩) n (big + n)) yI = some (.slice (some ⟨s.next, 0, some 0⟩) (n + m) (big + (n + m)), St.push { s with heap := hdel s.heap b' } [⟨blk.cells ++ cs, e', true, t'⟩]) := by
        simp only [appA, hlen, Option.bind_some]
        rw [if_neg h0, if_pos (by simp only [Bool.and_eq_true, Nat.ble_eq]; exact ⟨hr1, hr2⟩), c1]
        simp only [Option.bind_some]
        rw [if_pos hone, if_neg (by rw [hnb]; simp), if_pos (by rw [Nat.ble_eq]; exact g2), m2]
        simp only [Option.bind_some]
        rw [if_pos (by simp only [Bool.and_eq_true]; rw [m3.1, m3.2.1, m3.2.2.1, hcl, hl]; refine ⟨⟨⟨⟨rfl, nbeq.2 rfl⟩, nbeq.2 rfl⟩, nbeq.2 (by omega)⟩, nbeq.2 rfl⟩)]
        rfl
      rw [this]; exact g1
  · rename_i o k n c
    split at hs
    case h_2 => cases hs
    rename_i t' e' g z l ho
    split at hs
    · cases hs
    rename_i hcond
    simp only [Bool.or_eq_true, not_or, Bool.not_eq_true, bleF] at hcond
    obtain ⟨⟨⟨⟨hro, hz⟩, h0'⟩, hr1⟩, hr2⟩ := hcond
    subst hz
    have hm0 : m ≠ 0 := nbf.1 h0'
    have h0 : ¬ Nat.beq m 0 = true := by rw [nbeq]; exact hm0
    replace hnn := hnn hm0
    simp only [VRep] at hx
    obtain ⟨_, hcap, b', rfl, q⟩ := hx
    obtain ⟨b0, blk, m1, m2, m3⟩ := h.obj o _ ho rfl
    have := q b0 m1
    subst this
    have hcl := m3.2.2.2.length
    split at hs
    · rename_i hcb
      split at hs
      case isFalse => cases hs
      rename_i hle
      simp only [Bool.and_eq_true, Bool.not_eq_true'] at hle
      obtain ⟨hle, hof⟩ := hle
      simp only [Option.map_eq_some_iff] at hs
      obtain ⟨l', hl', hs⟩ := hs
      cases hs
      obtain ⟨rs, r1⟩ := lput_any hl' hcl c0
      have r2 : ∀ w', VW.le (wof C st s μ F) w' → Fin (wof C st s μ F) w' new.2 → LdX s.heap (wof C st s μ F) w' new.2 → DRepL w' l' rs := fun w' k1 k2 k3 => by
        obtain ⟨rs', q1, q2⟩ := putD_ok hl' (m3.2.2.2.mono k1) (c2 w' k1 k2 k3)
        rw [r1] at q1; cases q1; exact q2
      obtain ⟨g1, g2, g3⟩ := h.upd (fz := new.2) (ob' := .row t' e' g false l') (blk' := { blk with cells := rs }) ho rfl hro m1 m2 hrow (fun hm => by have := (elemB_iff _ _).2 hm; rw [hof] at this; cases this) rfl rfl (putL_okL hl' (h.own o _ ho).2 hok) (fun w' k1 k2 k3 => ⟨m3.1, m3.2.1, m3.2.2.1, r2 w' k1 k2 k3⟩)
      rw [Nat.ble_eq] at hle
      rw [appR_none (by
        simp only [appP, hlen, Option.bind_some]
        rw [if_neg h0, if_neg (by
          have : Nat.blt c (n + m) = false := by rw [← Bool.not_eq_true, Nat.blt_eq]; omega
          simp [this])])]
      · have : appA C.E s t e b (.slice (some ⟨b', k, some 0⟩) n c) yI = some (.slice (some ⟨b', k, some 0⟩) (n + m) c, { s with heap := hset s.heap b' { blk with cells := rs } }) := by
          simp only [appA, hlen, Option.bind_some]
          rw [if_neg h0, if_pos (by simp only [Bool.and_eq_true, Nat.ble_eq]; exact ⟨hr1, hr2⟩), c1]
          simp only [Option.bind_some]
          rw [if_pos hone, if_pos hcb, if_pos (by rw [Nat.ble_eq]; exact hle)]
          have hast := astore_ok (s := s) m2 g3 hone r1 0
          simp only [aadd]
          rw [hast]
          rfl
        rw [this]
        refine ⟨_, _, μ, _, rfl, g1, ?_, g2, rfl, Nat.le_refl _, fun c hc => h.fin_ge hrow hc⟩
        simp only [VRep]
        rw [Nat.blt_eq] at hcb
        exact ⟨‹_›, by unfold capOK; rw [knownCap_lt hcb]; exact hle, b', rfl, q⟩
    · rename_i hcb
      split at hs
      case isFalse =>
        split at hs
        case isFalse => cases hs
        rename_i hle
        simp only [Bool.and_eq_true, Bool.not_eq_true'] at hle
        obtain ⟨⟨hle, hof⟩, hng⟩ := hle
        simp only [Option.map_eq_some_iff] at hs
        obtain ⟨l', hl', hs⟩ := hs
        cases hs
        obtain ⟨rs, r1⟩ := lput_any hl' hcl c0
        have r2 : ∀ w', VW.le (wof C st s μ F) w' → Fin (wof C st s μ F) w' new.2 → LdX s.heap (wof C st s μ F) w' new.2 → DRepL w' l' rs := fun w' k1 k2 k3 => by
          obtain ⟨rs', q1, q2⟩ := putD_ok hl' (m3.2.2.2.mono k1) (c2 w' k1 k2 k3)
          rw [r1] at q1; cases q1; exact q2
        obtain ⟨g1, g2, g3⟩ := h.upd (fz := new.2) (ob' := .row t' e' g false l') (blk' := { blk with cells := rs }) ho rfl hro m1 m2 hrow (fun hm => by have := (elemB_iff _ _).2 hm; rw [hof] at this; cases this) rfl rfl (putL_okL hl' (h.own o _ ho).2 hok) (fun w' k1 k2 k3 => ⟨m3.1, m3.2.1, m3.2.2.1, r2 w' k1 k2 k3⟩)
        rw [Nat.ble_eq] at hle
        have hcb' : Nat.blt c big = false := by simp only [Bool.not_eq_true] at hcb; exact hcb
        rw [appR_none (by
          simp only [appP, hlen, Option.bind_some]
          rw [if_neg h0, if_neg (by simp [hcb'])])]
        · have : appA C.E s t e b (.slice (some ⟨b', k, some 0⟩) n c) yI = some (.slice (some ⟨b', k, some 0⟩) (n + m) c, { s with heap := hset s.heap b' { blk with cells := rs } }) := by
            simp only [appA, hlen, Option.bind_some]
            rw [if_neg h0, if_pos (by simp only [Bool.and_eq_true, Nat.ble_eq]; exact ⟨hr1, hr2⟩), c1]
            simp only [Option.bind_some]
            rw [if_pos hone, if_neg hcb, if_pos (by rw [Nat.ble_eq]; exact g3), m2]
            simp only [Option.bind_some]
            rw [if_neg (by
              rw [m3.1, m3.2.1, m3.2.2.1, hcl, hng]
              exact Bool.false_ne_true), if_pos (by rw [Nat.ble_eq]; exact hle)]
            have hast := astore_ok (s := s) m2 g3 hone r1 0
            simp only [aadd]
            rw [hast]
            rfl
          rw [this]
          refine ⟨_, _, μ, _, rfl, g1, ?_, g2, rfl, Nat.le_refl _, fun c hc => h.fin_ge hrow hc⟩
          simp only [VRep]
          rw [Nat.blt_eq] at hcb
          exact ⟨‹_›, by unfold capOK; rw [knownCap_ge (by omega)]; exact hle, b', rfl, q⟩
      rename_i hc
      simp only [Bool.and_eq_true, Bool.not_eq_true'] at hc
      obtain ⟨⟨⟨⟨⟨hg, ht⟩, he⟩, hk⟩, hc⟩, hof⟩ := hc
      have ht := nbeq.1 ht
      have he := nbeq.1 he
      have hk := nbeq.1 hk
      have hc := nbeq.1 hc
      subst ht he hg hc
      cases hs
      obtain ⟨g1, g2⟩ := h.grow (t := t') (e := e') (m := n + m) (l := l.drop k ++ new.1) (fz := new.2) (cs := blk.cells.drop k ++ cs) ho rfl hro m1 m2 (by simp [hnn]) (by
        have := (h.own o _ ho).2
        simp only [Obj.ok, okL, List.all_eq_true] at this
        simp only [okL, List.all_append, Bool.and_eq_true, List.all_eq_true]
        exact ⟨fun d hd => this d (List.mem_of_mem_drop hd), by simpa only [okL, List.all_eq_true] using hok⟩) (by omega) hrow hof (fun w' k1 k2 k3 => ((m3.2.2.2.drop k).mono k1).append (c2 w' k1 k2 k3))
      rw [appR_none (by
        simp only [appP, hlen, Option.bind_some]
        rw [if_neg h0, if_neg (by simp only [Bool.not_eq_true] at hcb; simp [hcb])])]
      · have : appA C.E s t' e' b (.slice (some ⟨b', k, some 0⟩) n (big + n)) yI = some (.slice (some ⟨s.next, 0, some 0⟩) (n + m) (big + (n + m)), St.push { s with heap := hdel s.heap b' } [⟨blk.cells.drop k ++ cs, e', true, t'⟩]) := by
          simp only [appA, hlen, Option.bind_some]
          rw [if_neg h0, if_pos (by simp only [Bool.and_eq_true, Nat.ble_eq]; exact ⟨hr1, hr2⟩), c1]
          simp only [Option.bind_some]
          rw [if_pos hone, if_neg hcb, if_pos (by rw [Nat.ble_eq]; exact g2), m2]
          simp only [Option.bind_some]
          rw [if_pos (by simp only [Bool.and_eq_true]; rw [m3.1, m3.2.1, m3.2.2.1, hcl]; exact ⟨⟨⟨⟨rfl, nbeq.2 rfl⟩, nbeq.2 rfl⟩, nbeq.2 hk⟩, nbeq.2 rfl⟩)]
        rw [this]; exact g1
  · cases hs
theorem vcopy_ok (h : SR C st s μ F) {e : Nat} {d x : V} {dI xI : Value} (hd : VRep (wof C st s μ F) d dI) (hx : VRep (wof C st s μ F) x xI) (hs : vcopy st e d x = some (v, st')) :
    Stp C st s μ F (copyR C.E s e dI xI) v st' := by
  simp only [vcopy, Option.bind_eq_some_iff] at hs
  obtain ⟨n, hn, m, hm, cs, hcs, hs⟩ := hs
  split at hs
  case isFalse => cases hs
  rename_i hok
  have hml : ∀ k, lenS x = some k → Nat.min m n ≤ k := fun k hk => by rw [hm] at hk; cases hk; exact Nat.min_le_left _ _
  simp only [Bool.and_eq_true, List.isEmpty_iff] at hok
  obtain ⟨us, u1, u2⟩ := (srcD_ok h.hr hx hcs hml).plain h.hr hok.2
  replace hok := hok.1
  have hlx := lenS_ok hx hm
  have hone := u2.one
  have hint : ∀ w : VW, VRep w (.sc (.int .i64 ↑(Nat.min m n))) (.int .i64 ↑(Nat.min m n)) := fun w => .mksc rfl
  split at hs
  · rename_i o k n' c
    simp only [lenV, Option.some.injEq] at hn
    subst hn
    split at hs
    case h_2 => cases hs
    rename_i t e' g z l ho
    split at hs
    · cases hs
    rename_i hcond
    simp only [Bool.or_eq_true, not_or, Bool.not_eq_true, bleF] at hcond
    obtain ⟨hro, hz⟩ := hcond
    subst hz
    simp only [Option.map_eq_some_iff] at hs
    obtain ⟨l', hl', hs⟩ := hs
    cases hs
    simp only [VRep] at hd
    obtain ⟨_, hcap, b', rfl, q⟩ := hd
    obtain ⟨b0, blk, m1, m2, m3⟩ := h.obj o _ ho rfl
    have := q b0 m1
    subst this
    obtain ⟨rs, r1, r2⟩ := putD_ok hl' m3.2.2.2 u2
    obtain ⟨g1, g2, g3⟩ := h.upd (fz := []) (ob' := .row t e' g false l') (blk' := { blk with cells := rs }) ho rfl hro m1 m2 rfl (by simp) rfl rfl (putL_okL hl' (h.own o _ ho).2 hok) (fun w' k1 k2 k3 => ⟨m3.1, m3.2.1, m3.2.2.1, r2.mono k1⟩)
    rw [frozA_nil] at g1 g2
    refine ⟨_, _, μ, _, ?_, g1, hint _, g2, rfl, Nat.le_refl _, fun c hc => h.fin_ge (fz := []) rfl hc⟩
    simp only [copyR, hlx, u1, Option.bind_some]
    rw [astore_ok m2 g3 hone r1]
    rfl
  · rename_i s' o n'
    simp only [lenV, Option.some.injEq] at hn
    subst hn
    split at hs
    case h_2 => cases hs
    rename_i t e' z l ho
    split at hs
    · cases hs
    rename_i hcond
    simp only [Bool.or_eq_true, not_or, Bool.not_eq_true, bleF, nbf, Bool.not_eq_false'] at hcond
    obtain ⟨⟨⟨⟨hro, hz⟩, hn0⟩, he0⟩, hll⟩ := hcond
    have hll := nbeq.1 hll
    rw [Nat.ble_eq] at hro
    subst hz
    simp only [Option.map_eq_some_iff] at hs
    obtain ⟨l', hl', hs⟩ := hs
    cases hs
    simp only [VRep] at hd
    rcases hd with ⟨_, ⟨h00, _⟩ | ⟨_, b', rfl, q⟩⟩
    · exact absurd h00 hn0
    have hl0 : l ≠ [] := fun e0 => by
      rw [e0] at hll
      have := Nat.mul_pos (Nat.pos_of_ne_zero hn0) (Nat.pos_of_ne_zero he0)
      simp at hll; omega
    obtain ⟨b0, blk, m1, m2, m3⟩ := h.obj o _ ho (gro_some hl0)
    have := q b0 m1
    subst this
    obtain ⟨rs, r1, r2⟩ := putD_ok hl' m3.2.2.2 u2
    have hl'0 : l' ≠ [] := fun e0 => by have := putL_len hl'; rw [e0] at this; exact hl0 (List.eq_nil_of_length_eq_zero this.symm)
    obtain ⟨g1, g2, g3⟩ := h.upd (fz := []) (ob' := .gro t e' false l') (blk' := { blk with cells := rs }) ho rfl hro m1 m2 rfl (by simp) (gro_some hl'0) rfl (putL_okL hl' (h.own o _ ho).2 hok) (fun w' k1 k2 k3 => ⟨m3.1, m3.2.1, m3.2.2.1, r2.mono k1⟩)
    rw [frozA_nil] at g1 g2
    refine ⟨_, _, μ, _, ?_, g1, hint _, g2, rfl, Nat.le_refl _, fun c hc => h.fin_ge (fz := []) rfl hc⟩
    simp only [copyR, hlx, u1, Option.bind_some]
    rw [astore_ok m2 g3 hone r1]
    rfl
  · cases hs
    have hk := hd.ok
    have := hd.scv
    subst this
    simp only [scOK, Bool.and_eq_true, nbeq] at hk
    obtain ⟨rfl, rfl⟩ := hk
    simp only [lenV, Option.some.injEq] at hn
    subst hn
    refine ⟨_, s, μ, F, ?_, h, hint _, VW.le.refl _, rfl, Nat.le_refl _, fun b hb => .inl hb⟩
    simp only [copyR, hlx, u1, Option.bind_some]
  · cases hs
theorem SR.give (h : SR C st s μ F) {o b : Nat} {ob : Obj} (ho : aget st.own o = some ob) (hz : ob.fz = false) (hro : st.ro ≤ o) (hμ : μ o = some b) (x : Value) (hx : scOK x = true) :
    Stp C st s μ F (some (x, { s with heap := hdel s.heap b })) (.sc x) ⟨adel o st.own, st.next, st.ro⟩ ∧ s.prot ≤ b := by
  obtain ⟨d1, d2, d3⟩ := h.del ho hz hro hμ
  exact ⟨⟨x, _, _, F, rfl, d1, .mksc hx, d2, rfl, Nat.le_refl _, fun b hb => .inl hb⟩, d3⟩
theorem vustr_ok (h : SR C st s μ F) {t : TypeId} {p n : V} {pI nI : Value} (hp : VRep (wof C st s μ F) p pI) (hn : VRep (wof C st s μ F) n nI) (hs : vustr st t p n = some (v, st')) :
    Stp C st s μ F (ustrA s t pI nI) v st' := by
  unfold vustr at hs
  split at hs
  · rename_i k
    split at hs
    case isFalse => cases hs
    rename_i hk
    cases hs
    have := hp.scv
    subst this
    have := hn.scv
    subst this
    exact ⟨_, s, μ, F, by simp [ustrA, hk], h, .mksc rfl, VW.le.refl _, rfl, Nat.le_refl _, fun b hb => .inl hb⟩
  · rename_i o k m
    split at hs
    case isFalse => cases hs
    rename_i hc
    obtain ⟨hm0, hm1, hro⟩ := hc
    rw [Nat.ble_eq] at hro
    have := hn.scv
    subst this
    simp only [VRep] at hp
    obtain ⟨_, b', rfl, q⟩ := hp
    have hne : ¬ m = 0 := by omega
    have fin : ∀ {ob : Obj} {l : List D} {b : Nat} {blk : Blk} {bs : List UInt8} {cs : List D}, aget st.own o = some ob → ob.fz = false → μ o = some b → hget s.heap b = some blk → blk.ty = t → DRepL (wof C st s μ F) l blk.cells → ltake (l.drop k) m.toNat = some cs → dbytes cs = some bs →
        v = .sc (.string ⟨bs.toArray⟩) → st' = ⟨adel o st.own, st.next, st.ro⟩ → Stp C st s μ F (ustrA s t (.pointer (some ⟨b', k, some 0⟩)) (.int .i64 m)) v st' := by
      intro ob l b blk bs cs e1 e2 e3 e4 e5 e6 e7 e8 e9 e10
      have := q b e3
      subst this e9 e10
      obtain ⟨g1, g2⟩ := h.give e1 e2 hro e3 (.string ⟨bs.toArray⟩) rfl
      obtain ⟨rfl, hlen⟩ := ltake_some _ _ e7
      rw [List.length_drop] at hlen
      have hcl := e6.length
      have hb := dbytes_ok e8 (e6.part k m.toNat)
      have : ustrA s t (.pointer (some ⟨b', k, some 0⟩)) (.int .i64 m) = some (.string ⟨bs.toArray⟩, { s with heap := hdel s.heap b' }) := by
        simp only [ustrA]
        rw [if_neg hne, if_pos ⟨hm0, hm1⟩, if_pos (by rw [Nat.ble_eq]; exact g2), e4]
        simp only [Option.bind_some]
        rw [if_pos (by rw [e5]; exact nbeq.2 rfl), ltake_eq _ _ (by rw [List.length_drop]; omega)]
        simp only [Option.bind_some, hb, Option.map_some]
      rw [this]; exact g1
    split at hs
    · rename_i t' e' z l ho
      split at hs
      case isFalse => cases hs
      rename_i hc
      simp only [Bool.and_eq_true, Bool.not_eq_true'] at hc
      have ht := nbeq.1 hc.1
      have hz := hc.2
      subst ht hz
      simp only [Option.bind_eq_some_iff, Option.map_eq_some_iff] at hs
      obtain ⟨cs, h1, bs, h2, hs⟩ := hs
      cases hs
      have hl0 : l ≠ [] := fun e0 => by
        obtain ⟨_, hlen⟩ := ltake_some _ _ h1
        rw [e0] at hlen; simp at hlen; omega
      obtain ⟨b0, blk, m1, m2, m3⟩ := h.obj o _ ho (gro_some hl0)
      exact fin ho rfl m1 m2 m3.2.2.1 m3.2.2.2 h1 h2 rfl rfl
    · rename_i t' e' g z l ho
      split at hs
      case isFalse => cases hs
      rename_i hc
      simp only [Bool.and_eq_true, Bool.not_eq_true'] at hc
      have ht := nbeq.1 hc.1
      have hz := hc.2
      subst ht hz
      simp only [Option.bind_eq_some_iff, Option.map_eq_some_iff] at hs
      obtain ⟨cs, h1, bs, h2, hs⟩ := hs
      cases hs
      obtain ⟨b0, blk, m1, m2, m3⟩ := h.obj o _ ho rfl
      exact fin ho rfl m1 m2 m3.2.2.1 m3.2.2.2 h1 h2 rfl rfl
    · cases hs
  · cases hs
theorem vwstep_ok (h : SR C st s μ F) (hf : FR (wof C st s μ F) fr frI) {op : AOp} (hs : vwstep fr st op = some (v, st')) : Stp C st s μ F (step C.E frI s op) v st' := by
  cases op with
  | store n a u =>
    simp only [vwstep, Option.bind_eq_some_iff, Option.map_eq_some_iff] at hs
    obtain ⟨av, h1, uv, h2, st1, h3, hs⟩ := hs
    cases hs
    obtain ⟨aI, a1, a2⟩ := vev_ok hf h1
    obtain ⟨uI, b1, b2⟩ := vev_ok hf h2
    have := vstore_ok h a2 b2 h3
    rw [step_w (r := _) rfl rfl]
    simp only [wstep, a1, b1, Option.bind_some]
    exact this
  | app t e b x y =>
    simp only [vwstep, Option.bind_eq_some_iff] at hs
    obtain ⟨av, h1, uv, h2, hs⟩ := hs
    obtain ⟨aI, a1, a2⟩ := vev_ok hf h1
    obtain ⟨uI, b1, b2⟩ := vev_ok hf h2
    have k := vappA_ok h a2 b2 hs
    have : step C.E frI s (.app t e b x y) = appR C.E s t e b aI uI := by
      simp only [step, pstep, wstep, a1, b1, Option.bind_some, appR]
      cases appP C.E s t e b aI uI <;> rfl
    rw [this]
    exact k
  | copy e d x =>
    simp only [vwstep, Option.bind_eq_some_iff] at hs
    obtain ⟨av, h1, uv, h2, hs⟩ := hs
    obtain ⟨aI, a1, a2⟩ := vev_ok hf h1
    obtain ⟨uI, b1, b2⟩ := vev_ok hf h2
    have := vcopy_ok h a2 b2 hs
    rw [step_w (r := _) rfl rfl]
    simp only [wstep, a1, b1, Option.bind_some]
    exact this
  | ustr t p n =>
    simp only [vwstep, Option.bind_eq_some_iff] at hs
    obtain ⟨av, h1, uv, h2, hs⟩ := hs
    obtain ⟨aI, a1, a2⟩ := vev_ok hf h1
    obtain ⟨uI, b1, b2⟩ := vev_ok hf h2
    have := vustr_ok h a2 b2 hs
    rw [step_w (r := _) rfl rfl]
    simp only [wstep, a1, b1, Option.bind_some]
    exact this
  | _ => simp [vwstep] at hs
theorem vstep_ok (h : SR C st s μ F) (hf : FR (wof C st s μ F) fr frI) {op : AOp} (hs : vstep C.E.old fr st op = some (v, st')) : Stp C st s μ F (step C.E frI s op) v st' := by
  unfold vstep at hs
  split at hs
  · rename_i v' ob fz hv
    split at hs
    case isFalse => cases hs
    rename_i hrow
    cases hs
    obtain ⟨vI, bs, p1, p2⟩ := vpstep_ok (n := s.next) (p := s.prot) h.hr hf hv
    obtain ⟨q1, q2, q3, q4⟩ := h.push p2 hrow
    refine ⟨vI, s.push bs, _, _, ?_, q1, q2, q3, rfl, by simp [St.push], q4⟩
    have : step C.E frI s op = some (vI, s.push bs) := by simp only [step]; rw [show pstep C.E frI s op = some (vI, bs) from p1]
    exact this
  · exact vwstep_ok h hf hs
end
end Go.Itp
