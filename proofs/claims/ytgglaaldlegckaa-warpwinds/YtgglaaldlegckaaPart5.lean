/- What is proved: the law WarpWinds returns true for every input. Conditions: none.
   Texts: Shell, Shell2, Shell3, V22, V23, V24, V25, V26, VV, V27.
-/
import Derived.Test.YtgglaaldlegckaaPart4
import Derived.ChangeSame
import Derived.ChangeReads
import Derived.ChangeSlices
import Derived.SliceStrings
import Derived.ChangeShapes
import Derived.WideShapes
import Derived.ProofKit
import Derived.OpenShut
import Derived.SizedLaws
/-
  From the interpreter's answer to a given statement: what an argument reads as, and that it reads so behind the call too.
-/
namespace Go.Itp
open Go.RowKit (Below)
open Go.ChangeShapes Go.WideShapes

/-- types whose values hold no pointer, map, function or interface -/
def flatT (P : Program) : Nat → TypeId → Bool
  | 0, _ => false
  | k + 1, t => match P.underlying t with
    | some .bool => true
    | some (.int _) => true
    | some .string => true
    | some (.slice e) => !(P.cellsOf e == 0) && flatT P k e
    | some (.struct fs) => fs.toList.all fun f => flatT P k f.type
    | some (.array _ e) => flatT P k e
    | _ => false
section
variable {H : Type} {enc : TypeId × Value → H} {P : Program} {w : World} {base : Nat} {held : Bool} {sp : Nat → Bool}
theorem trod_sp : ∀ (k n : Nat) (t : TypeId) (cs : List Value) (x : DataW H × List MemPlace), flatT P k t = true → DataW.trod enc P w base (fun _ => true) held n t cs = some x → (∀ p ∈ x.2, sp p.block = true) →
    DataW.trod enc P w base sp held n t cs = some x
  | 0, _, _, _, _, h, _, _ => by simp [flatT] at h
  | k + 1, 0, _, _, _, _, h, _ => by simp [DataW.trod] at h
  | k + 1, n + 1, t, cs, x, hf, h, hs => by
    have ih := fun t cs x => trod_sp k n t cs x
    rw [DataW.trod_step] at h ⊢
    unfold DataW.trodStep at h ⊢
    unfold flatT at hf
    split at h
    case h_8 e a len cap hu =>
      rw [hu] at hf
      simp only [Bool.and_eq_true, Bool.not_eq_true', beq_eq_false_iff_ne] at hf
      simp only at h ⊢
      split at h
      · rename_i hc
        rw [if_pos hc]
        simp only [Option.map_eq_some_iff, Option.bind_eq_some_iff, if_true] at h ⊢
        obtain ⟨elems, he, rest, hrest, rfl⟩ := h
        have hl1 : elems.length = len := by simpa using mapM_some_length he
        have hl2 : rest.length = cap - len := by simpa using mapM_some_length hrest
        have one : ∀ (a : Addr) (y : DataW H × List MemPlace), y ∈ elems ++ rest → (w.cells? base a (P.cellsOf e)).bind (DataW.trod enc P w base (fun _ => true) held n e) = some y →
            (w.cells? base a (P.cellsOf e)).bind (DataW.trod enc P w base sp held n e) = some y := by
          intro a y hy hv
          simp only [Option.bind_eq_some_iff] at hv ⊢
          obtain ⟨c, hc1, hc2⟩ := hv
          exact ⟨c, hc1, ih _ _ _ hf.2 hc2 fun p hp => hs p (by simp only [List.mem_append, List.mem_flatMap]; exact Or.inr ⟨y, by simpa using hy, hp⟩)⟩
        refine ⟨elems, mapM_carry he fun i y _ hy hv => one _ y (by simp [hy]) hv, rest, ?_, rfl⟩
        by_cases hz : elems.length + rest.length = 0
        · have : rest = [] := List.length_eq_zero_iff.1 (by omega)
          subst this
          have : cap - len = 0 := by simpa using hl2.symm
          rw [this]
          split <;> simp
        · have hb : sp a.block = true := by
            have := hs (.cell a.block (a.off + 0)) (by
              simp only [List.mem_append]
              left
              refine MemPlace.mem_row.2 ⟨0, ?_, rfl⟩
              exact Nat.mul_pos (by omega) (Nat.pos_of_ne_zero hf.1))
            simpa [MemPlace.block] using this
          rw [if_pos hb]
          exact mapM_carry hrest fun j y _ hy hv => one _ y (by simp [hy]) hv
      · cases h
    case h_9 fs hu =>
      rw [hu] at hf
      simp only [List.all_eq_true] at hf
      split at h
      · rename_i hc
        rw [if_pos hc]
        simp only [Option.map_eq_some_iff] at h ⊢
        obtain ⟨xs, hx, rfl⟩ := h
        exact ⟨xs, mapM_carry hx (fun f y hfm hy hv => ih _ _ _ (hf f hfm) hv (fun p hp => hs p (List.mem_flatMap.2 ⟨y, hy, hp⟩))), rfl⟩
      · cases h
    case h_10 m e hu =>
      rw [hu] at hf
      split at h
      · rename_i hc
        rw [if_pos hc]
        simp only [Option.map_eq_some_iff] at h ⊢
        obtain ⟨xs, hx, rfl⟩ := h
        exact ⟨xs, mapM_carry hx (fun f y _ hy hv => ih _ _ _ hf hv (fun p hp => hs p (List.mem_flatMap.2 ⟨y, hy, hp⟩))), rfl⟩
      · cases h
    all_goals first | exact h | (exfalso; simp_all; done) | (simp_all; done)
theorem trodAll_sp (k : Nat) {W W' : World} (hb : Below W.heap.size W W') : ∀ (ts : List TypeId) (vs : List Value) (ds : List (DataW H)) (ps : List MemPlace), ts.all (flatT P k) = true →
    DataW.TrodAll enc P W base (fun _ => true) held ts vs ds ps → (∀ p ∈ ps, p.block < W.heap.size) → (∀ p ∈ ps, sp p.block = true) → DataW.TrodAll enc P W' base sp held ts vs ds ps
  | [], [], [], _, _, h, _, _ => h
  | t :: ts, v :: vs, d :: ds, ps, hf, ⟨p, q, ⟨n, h1⟩, h2, e⟩, hl, hs => by
    subst e
    simp only [List.all_cons, Bool.and_eq_true] at hf
    refine ⟨p, q, ⟨n, ?_⟩, trodAll_sp k hb ts vs ds q hf.2 h2 (fun x hx => hl x (by simp [hx])) (fun x hx => hs x (by simp [hx])), rfl⟩
    refine trod_sp k n _ _ _ hf.1 (DataW.trod_carry n _ _ _ h1 fun x hx => hb.same (hl x ?_)) fun x hx => hs x ?_
    · simp only at hx; simp [hx]
    · simp only at hx; simp [hx]
  | [], _ :: _, _, _, _, h, _, _ => by simp [DataW.TrodAll] at h
  | [], [], _ :: _, _, _, h, _, _ => by simp [DataW.TrodAll] at h
  | _ :: _, [], _, _, _, h, _, _ => by simp [DataW.TrodAll] at h
  | _ :: _, _ :: _, [], _, _, h, _, _ => by simp [DataW.TrodAll] at h
/-- the last step of a law without package variables: true is returned, and what was there reads as it did -/
theorem law_post {f : Func} {s : ChangeSpec} {apart fresh handsOn again : Bool} {W W' : World} {args : Array Value} {ds gs : List (DataW H)} {before : List MemPlace} {rt : TypeId}
    (hW : DataW.Whole enc P f.params.toList s.vars apart W args.toList ds gs before) (hv : s.vars = []) (hfn : s.fn H ds = { results := [.lit (.bool true)], args := ds })
    (hf : f.params.toList.all (flatT P 20) = true) (hr : f.resultTypes = #[rt]) (hrt : P.underlying rt = some .bool) (hb : Below W.heap.size W W') :
    s.post enc P f apart fresh handsOn again W args (.bool true) W' := by
  have hlt : ∀ p ∈ before, p.block < W.heap.size := fun p hp => hW.lt p hp
  have hW' := hW
  obtain ⟨pa, pv, hA, hV, hps, hz, hn⟩ := hW
  rw [hv] at hV
  obtain ⟨rfl, rfl⟩ := trodVars_none hV
  rw [List.append_nil] at hps
  subst hps
  have hd : s.fn H (ds ++ []) = { results := [.lit (.bool true)], args := ds } := by rw [List.append_nil]; exact hfn
  have hres : ∀ (b : Nat) (sp : Nat → Bool) (hd : Bool), DataW.TrodAll enc P W' b sp hd f.resultTypes.toList ((Value.bool true).resultList f.resultTypes.size) (s.fn H (ds ++ [])).results [] := by
    intro b sp hd'
    rw [hr, hd]
    exact ⟨[], [], ⟨1, by simp [DataW.trod, hrt, Value.cells]⟩, rfl, rfl⟩
  have hargs : ∀ sp : Nat → Bool, (∀ p ∈ before, sp p.block = true) → DataW.TrodAll enc P W' 0 sp true f.params.toList args.toList (s.fn H (ds ++ [])).args before := fun sp hsp => by rw [hd]; exact trodAll_sp 20 hb _ _ _ _ hf hA hlt hsp
  have hold : ∀ p ∈ before, (fun b => decide (b < W.heap.size)) p.block = true := fun p hp => by simpa using hlt p hp
  have hvars : ∀ sp, DataW.TrodVars enc P W' sp s.vars (s.fn H (ds ++ [])).vars [] := fun sp => by rw [hv, hd]; rfl
  refine ⟨ds, [], before, [], before, [], hW', hres _ _ _, hargs _ hold, hvars _, World.keptBut_mono (fun p hp => ⟨hp, ?_⟩) (hb.frame (· ∈ before)), fun _ => ?_⟩
  · exact Or.inr (Or.inl hp)
  · refine ⟨?_, _, _, ([] ++ before) ++ [], ⟨[] ++ before, [], trodAll_append (hargs _ (fun _ _ => rfl)) (hres _ _ _), hvars _, rfl, ?_, ?_⟩, ?_⟩
    · intro j t r h1 h2
      rw [hr] at h1 h2
      have hj : j = 0 := by
        rcases Nat.lt_or_ge j 1 with h | h
        · omega
        · rw [Array.getElem?_eq_none (by simpa using h)] at h1; cases h1
      subst hj
      simp at h1 h2
      subst h1
      have h2' : r = .bool true := by
        have : (Value.bool true).resultList 1 = [.bool true] := rfl
        rw [this] at h2; simpa using h2.symm
      subst h2'
      exact Go.RowKit.okWide_bool_mk hrt true
    · intro b off hp
      have hin : MemPlace.cell b off ∈ before := by simpa using hp
      rw [hb.frozen (hlt _ hin)]
      exact hz b off hin
    · intro ha; simpa using hn ha
    · intro p hp _; simpa using hp
end

/-- an argument that is a list of numbers -/
theorem rd_ints {H : Type} {enc : TypeId × Value → H} {P : Program} {W : World} {base b : Nat} {held : Bool} {t e : TypeId} {k : IntKind} {v : Value} {d : DataW H} {ps : List MemPlace} (ht : P.underlying t = some (.slice e)) (he : P.underlying e = some (.int k)) (hc : P.cellsOf e = 1) (hby : 0 < P.bytesOf e)
    (hv : Value.okWide P W .any b t v) (h : DataW.Trod enc P W base (fun _ => true) held t v d ps) (hsz : ∀ n ∈ d.weights P t, n ≤ reachBytes) :
    ∃ l : List Int, (∀ h, Rd (oldOf W) h (Value.int k) v l) ∧ bidN v = 0 ∧ ids 0 v = [] ∧ (∀ x ∈ l, (Lit.int k x).wf = true) ∧ l.length * P.bytesOf e ≤ reachBytes := by
  obtain ⟨n, hn⟩ := h
  have hone : v.cells.toList = [v] := cells_one (by
    unfold Value.okWide at hv
    rw [ht] at hv
    simp only [Cell.okWide, ht, Cell.ok] at hv
    cases v <;> first | rfl | (exfalso; simp at hv))
  rw [hone] at hn
  rcases open_ints ht he hc hn with ⟨h1, _⟩ | ⟨a, len, cap, zs, h1, _, hl, hm, hz, hx, hcell, hw⟩
  · simp only [List.cons.injEq, and_true] at h1
    subst h1
    exact ⟨[], fun h => Rd.nil, rfl, rfl, by simp, by simp⟩
  · simp only [List.cons.injEq, and_true] at h1
    subst h1
    have hsp : a.spot = none := by
      unfold Value.okWide at hv
      rw [ht] at hv
      simp only [Cell.okWide, ht, Cell.ok] at hv
      exact hv.2.2.2.1
    obtain ⟨b, o, s⟩ := a
    simp only at hsp
    subst hsp
    simp only [if_true] at hz
    have hlen : len ≤ zs.length := by omega
    simp only [Prod.mk.injEq] at hx
    have hmax : cap * P.bytesOf e ≤ reachBytes := by
      have := hsz ((lits (H := H) k (zs.take len)).length + (lits (H := H) k (zs.drop len)).length |> (· * P.bytesOf e)) (by rw [hx.1]; simp [DataW.weights, ht])
      simp only [lits, List.length_map, List.length_take, List.length_drop] at this
      rw [show min len zs.length + (zs.length - len) = cap by omega] at this
      exact this
    have hcap : cap ≤ cap * P.bytesOf e := Nat.le_mul_of_pos_right _ hby
    have hbig : reachBytes < big := by decide
    refine ⟨zs.take len, fun h => ⟨Or.inl ⟨_, cap, by rw [List.length_take, Nat.min_eq_left hlen], ?_, Or.inr ⟨_, rfl, fun i hi => by simp [bidA] at hi, fun j hj => ?_⟩⟩⟩, rfl, rfl, fun x hx => hw x (List.mem_of_mem_take hx), ?_⟩
    · rw [List.length_take, Nat.min_eq_left hlen]
      unfold knownCap
      rw [if_pos (by rw [Nat.blt_eq]; omega)]
      exact hl
    · have hj' : j < zs.length := by simp at hj; omega
      have := hcell j hj'
      rw [add_plain] at this
      simp only [aloadO, aadd]
      rw [oldOf_some this rfl]
      simp [List.getD_eq_getElem?_getD, hj']
    · rw [List.length_take, Nat.min_eq_left hlen]
      exact Nat.le_trans (Nat.mul_le_mul_right _ hl) hmax
end Go.Itp
/-
  Arguments of more kinds: lists of strings, of bools, of lists; structures of such.
-/
namespace Go.Itp
open Go.ChangeShapes Go.WideShapes

/-- what the interpreter holds in place of what a cell of old memory holds -/
def absV : Value → Value
  | .slice (some ⟨b, o, some k⟩) 0 0 => .complex .f32 b (enc2 o k)
  | v => v
theorem Rd.of_map {α : Type} {old : Nat → Nat → Option Value} {h : Heap} {f : α → Value} {v : Value} {l : List α} (r : Rd old h (fun x : Value => x) v (l.map f)) : Rd old h f v l := by
  rcases r.is with ⟨a, c, rfl, h1, h2⟩ | ⟨h1, h2⟩
  · refine ⟨Or.inl ⟨a, c, by simp, by simpa using h1, ?_⟩⟩
    rcases h2 with ⟨rfl, h2⟩ | ⟨ad, rfl, h2, h3⟩
    · exact Or.inl ⟨rfl, by simpa using h2⟩
    · exact Or.inr ⟨ad, rfl, h2, fun k hk => by have := h3 k (by simpa using hk); simpa using this⟩
  · exact ⟨Or.inr ⟨by simpa using h1, h2⟩⟩
section
variable {H : Type} {enc : TypeId × Value → H} {P : Program} {W : World} {base : Nat} {held : Bool}
/-- a slice whose elements lie in one cell each -/
theorem rd_raw {t e : TypeId} {fuel : Nat} {v : Value} {x : DataW H × List MemPlace} (ht : P.underlying t = some (.slice e)) (hc : P.cellsOf e = 1) (hby : 0 < P.bytesOf e)
    (h : DataW.trod enc P W base (fun _ => true) held fuel t [v] = some x) (hsz : ∀ n ∈ x.1.weights P t, n ≤ reachBytes)
    (habs : ∀ (c : Value) (n : Nat) (y : DataW H × List MemPlace), DataW.trod enc P W base (fun _ => true) held n e [c] = some y → ∀ b o, W.cell? ⟨b, o, none⟩ = some c → oldOf W b o = some (absV c)) :
    ∃ cs : List Value, (∀ h, Rd (oldOf W) h (fun x : Value => x) (absV v) (cs.map absV)) ∧ bidN (absV v) = 0 ∧ (∀ c ∈ cs, ∃ n y, DataW.trod enc P W base (fun _ => true) held n e [c] = some y ∧ ∀ m ∈ y.1.weights P e, m ≤ reachBytes) ∧ cs.length * P.bytesOf e ≤ reachBytes := by
  rcases DataW.trod_slice ht h with ⟨h1, _⟩ | ⟨a, len, cap, elems, rest, n, rfl, h1, rfl, hb, hl, hm, hlen, hel, hsp, _⟩
  · simp only [List.cons.injEq, and_true] at h1
    subst h1
    exact ⟨[], fun h => Rd.nil, rfl, by simp, by simp⟩
  · simp only [List.cons.injEq, and_true] at h1
    subst h1
    obtain ⟨hr1, hr2⟩ := hsp rfl
    have hmax : cap * P.bytesOf e ≤ reachBytes := by
      have := hsz ((elems.length + rest.length) * P.bytesOf e) (by simp [DataW.weights, ht])
      rwa [show elems.length + rest.length = cap by omega] at this
    have hcap : cap ≤ cap * P.bytesOf e := Nat.le_mul_of_pos_right _ hby
    have hbig : reachBytes < big := by decide
    have hone : ∀ i, i < len → ∃ c y, W.cell? (a.add i) = some c ∧ DataW.trod enc P W base (fun _ => true) held n e [c] = some y ∧ elems[i]? = some y := fun i hi => by
      have := hel i hi
      rw [hc, Nat.mul_one, List.getElem?_eq_getElem (by omega)] at this
      simp only [Option.bind_eq_some_iff] at this
      obtain ⟨cs, h2, h3⟩ := this
      unfold World.cells? at h2
      split at h2
      · simp only [List.range_one, List.mapM_cons, List.mapM_nil] at h2
        cases hq : W.cell? ((a.add i).add 0) with
        | none => rw [hq] at h2; cases h2
        | some c =>
          rw [hq] at h2
          have e0 : (a.add i).add 0 = a.add i := rfl
          rw [e0] at hq
          have : cs = [c] := by simpa using h2.symm
          subst this
          exact ⟨c, elems[i], hq, h3, List.getElem?_eq_getElem (by omega)⟩
      · cases h2
    by_cases hz : cap = 0
    · have hl0 : len = 0 := by omega
      subst hz hl0
      refine ⟨[], fun h => ?_, ?_, by simp, by simp⟩
      · obtain ⟨b, o, sp⟩ := a
        cases sp with
        | none => exact ⟨Or.inl ⟨some ⟨b, o, none⟩, 0, rfl, by simp, Or.inr ⟨⟨b, o, none⟩, rfl, fun i hi => by simp [bidA] at hi, fun k hk => by simp at hk⟩⟩⟩
        | some k => exact Rd.odd _ _ _
      · obtain ⟨b, o, sp⟩ := a
        cases sp <;> rfl
    · have habsv : absV (.slice (some a) len cap) = .slice (some a) len cap := by
        obtain ⟨b, o, sp⟩ := a
        cases sp with
        | none => rfl
        | some k =>
          unfold absV
          split
          · rename_i heq
            simp only [Value.slice.injEq] at heq
            exact (hz heq.2.2).elim
          · rfl
      have hspot : a.spot = none := by
        have hcell : ∃ c, W.cell? (a.add 0) = some c := by
          by_cases h0 : 0 < len
          · obtain ⟨c, _, h, _⟩ := hone 0 h0; exact ⟨c, h⟩
          · have := hr2 0 (by omega)
            rw [hc, Nat.mul_one, List.getElem?_eq_getElem (by omega)] at this
            simp only [Option.bind_eq_some_iff] at this
            obtain ⟨cs, h2, _⟩ := this
            unfold World.cells? at h2
            split at h2
            · simp only [List.range_one, List.mapM_cons, List.mapM_nil] at h2
              cases hq : W.cell? ((a.add (len + 0)).add 0) with
              | none => rw [hq] at h2; cases h2
              | some c => exact ⟨c, by rw [show len + 0 = 0 by omega] at hq; exact hq⟩
            · cases h2
        obtain ⟨c, hcell⟩ := hcell
        rw [show a.add 0 = a from rfl] at hcell
        cases hsp : a.spot with
        | none => rfl
        | some s =>
          simp only [World.cell?] at hcell
          split at hcell
          · simp [hsp] at hcell
          · cases hcell
      rw [habsv]
      obtain ⟨b, o, sp⟩ := a
      simp only at hspot
      subst hspot
      let cs := (List.range len).map fun i => (W.cell? ⟨b, o + i, none⟩).getD undef
      have hcs : ∀ i (hi : i < len), W.cell? ⟨b, o + i, none⟩ = some (cs[i]?.getD undef) ∧ ∃ y, DataW.trod enc P W base (fun _ => true) held n e [cs[i]?.getD undef] = some y ∧ elems[i]? = some y := fun i hi => by
        obtain ⟨c, y, h2, h3, h4⟩ := hone i hi
        rw [add_plain] at h2
        have : cs[i]?.getD undef = c := by simp [cs, hi, h2]
        rw [this]
        exact ⟨h2, y, h3, h4⟩
      have hlc : cs.length = len := by simp [cs]
      refine ⟨cs, fun h => ⟨Or.inl ⟨some ⟨b, o, none⟩, cap, by simp [hlc], ?_, Or.inr ⟨⟨b, o, none⟩, rfl, fun i hi => by simp [bidA] at hi, fun k hk => ?_⟩⟩⟩, rfl, fun c hc' => ?_, ?_⟩
      · unfold knownCap
        rw [if_pos (by rw [Nat.blt_eq]; omega)]
        simpa [hlc] using hl
      · have hk' : k < len := by simpa [hlc] using hk
        obtain ⟨h2, y, h3, _⟩ := hcs k hk'
        have := habs _ _ _ h3 _ _ h2
        simp only [aloadO, aadd]
        rw [this]
        have hkc : k < cs.length := by omega
        simp [hkc]
      · obtain ⟨i, hi, rfl⟩ := List.getElem_of_mem hc'
        obtain ⟨_, y, h3, h4⟩ := hcs i (by omega)
        refine ⟨n, y, by simpa [hi] using h3, fun m hm' => hsz m ?_⟩
        have hmem : y ∈ elems := List.mem_of_getElem? h4
        simp only [DataW.weights, ht, List.mem_cons, List.mem_append]
        right; left
        clear hsz
        have : ∀ l : List (DataW H × List MemPlace), y ∈ l → m ∈ DataW.weightsAll P e (l.map (·.1)) := by
          intro l
          induction l with
          | nil => intro h; cases h
          | cons z l ih =>
            intro hz'
            simp only [List.map_cons, DataW.weightsAll, List.mem_append]
            rcases List.mem_cons.1 hz' with rfl | hz'
            · exact Or.inl hm'
            · exact Or.inr (ih hz')
        exact this elems hmem
      · rw [hlc]
        exact Nat.le_trans (Nat.mul_le_mul_right _ hl) hmax
theorem abs_plain {b o : Nat} {c : Value} (h : W.cell? ⟨b, o, none⟩ = some c) (hid : ids 0 c = []) (ha : absV c = c) : oldOf W b o = some (absV c) := by
  rw [ha]; exact oldOf_some h hid
theorem map_of {α : Type} (f : α → Value) : ∀ (cs : List Value), (∀ c ∈ cs, ∃ a, c = f a ∧ absV (f a) = f a) → ∃ l : List α, cs.map absV = l.map f ∧ cs = l.map f
  | [], _ => ⟨[], rfl, rfl⟩
  | c :: cs, h => by
    obtain ⟨a, rfl, ha⟩ := h c (by simp)
    obtain ⟨l, h1, h2⟩ := map_of f cs fun c hc => h c (by simp [hc])
    exact ⟨a :: l, by simp [ha, h1], by simp [h2]⟩
/-- a list of strings -/
theorem rd_strings' {t e : TypeId} {fuel : Nat} {v : Value} {x : DataW H × List MemPlace} (ht : P.underlying t = some (.slice e)) (he : P.underlying e = some .string) (hc : P.cellsOf e = 1) (hby : 0 < P.bytesOf e)
    (h : DataW.trod enc P W base (fun _ => true) held fuel t [v] = some x) (hsz : ∀ n ∈ x.1.weights P t, n ≤ reachBytes) :
    ∃ l : List ByteArray, (∀ h, Rd (oldOf W) h Value.string (absV v) l) ∧ bidN (absV v) = 0 ∧ (∀ j, j < l.length → l[j]!.size ≤ reachBytes) ∧ l.length * P.bytesOf e ≤ reachBytes := by
  obtain ⟨cs, h1, h2, h3, h4⟩ := rd_raw ht hc hby h hsz fun c n y hy b o hcell => by
    obtain ⟨s, h5, _⟩ := DataW.trod_string he hy
    simp only [List.cons.injEq, and_true] at h5
    subst h5
    exact abs_plain hcell rfl rfl
  have hstr : ∀ c ∈ cs, ∃ s : ByteArray, c = .string s ∧ s.size ≤ reachBytes := fun c hc' => by
    obtain ⟨n, y, hy, hw⟩ := h3 c hc'
    obtain ⟨s, h5, h6, _⟩ := DataW.trod_string he hy
    simp only [List.cons.injEq, and_true] at h5
    subst h6
    exact ⟨s, h5, by have := hw s.data.toList.length (by simp [DataW.weights]); simpa using this⟩
  obtain ⟨l, hl1, hl2⟩ := map_of Value.string cs fun c hc' => by
    obtain ⟨s, h5, _⟩ := hstr c hc'
    exact ⟨s, h5, rfl⟩
  refine ⟨l, fun h => Rd.of_map (by rw [← hl1]; exact h1 h), h2, fun j hj => ?_, by rw [hl2] at h4; simpa using h4⟩
  have hm : Value.string l[j]! ∈ cs := by rw [hl2, getElem!_pos l j hj]; exact List.mem_map_of_mem (List.getElem_mem hj)
  obtain ⟨s, h5, h6⟩ := hstr _ hm
  cases h5
  exact h6
/-- a list of numbers -/
theorem rd_ints' {t e : TypeId} {k : IntKind} {fuel : Nat} {v : Value} {x : DataW H × List MemPlace} (ht : P.underlying t = some (.slice e)) (he : P.underlying e = some (.int k)) (hc : P.cellsOf e = 1) (hby : 0 < P.bytesOf e)
    (h : DataW.trod enc P W base (fun _ => true) held fuel t [v] = some x) (hsz : ∀ n ∈ x.1.weights P t, n ≤ reachBytes) :
    ∃ l : List Int, (∀ h, Rd (oldOf W) h (Value.int k) (absV v) l) ∧ bidN (absV v) = 0 ∧ (∀ z ∈ l, (Lit.int k z).wf = true) ∧ l.length * P.bytesOf e ≤ reachBytes := by
  obtain ⟨cs, h1, h2, h3, h4⟩ := rd_raw ht hc hby h hsz fun c n y hy b o hcell => by
    obtain ⟨s, h5, _⟩ := DataW.trod_int he hy
    simp only [List.cons.injEq, and_true] at h5
    subst h5
    exact abs_plain hcell rfl rfl
  have hstr : ∀ c ∈ cs, ∃ z : Int, c = .int k z ∧ (Lit.int k z).wf = true := fun c hc' => by
    obtain ⟨n, y, hy, _⟩ := h3 c hc'
    obtain ⟨s, h5, h6, h7⟩ := DataW.trod_int he hy
    simp only [List.cons.injEq, and_true] at h5
    exact ⟨s, h5, h7⟩
  obtain ⟨l, hl1, hl2⟩ := map_of (Value.int k) cs fun c hc' => by
    obtain ⟨s, h5, _⟩ := hstr c hc'
    exact ⟨s, h5, rfl⟩
  refine ⟨l, fun h => Rd.of_map (by rw [← hl1]; exact h1 h), h2, fun z hz => ?_, by rw [hl2] at h4; simpa using h4⟩
  obtain ⟨s, h5, h6⟩ := hstr (.int k z) (by rw [hl2]; exact List.mem_map_of_mem hz)
  cases h5
  exact h6
/-- a list of lists of numbers -/
theorem rd_rows {t e q : TypeId} {k : IntKind} {fuel : Nat} {v : Value} {x : DataW H × List MemPlace} (ht : P.underlying t = some (.slice e)) (he : P.underlying e = some (.slice q)) (hq : P.underlying q = some (.int k)) (hc : P.cellsOf e = 1) (hby : 0 < P.bytesOf e)
    (hcq : P.cellsOf q = 1) (hbq : 0 < P.bytesOf q) (h : DataW.trod enc P W base (fun _ => true) held fuel t [v] = some x) (hsz : ∀ n ∈ x.1.weights P t, n ≤ reachBytes) :
    ∃ (rs : List Value) (L : List (List Int)), (∀ h, Rd (oldOf W) h (fun x : Value => x) (absV v) rs) ∧ bidN (absV v) = 0 ∧ rs.length = L.length ∧ rs.length * P.bytesOf e ≤ reachBytes ∧
      ∀ j, j < L.length → (∀ h, Rd (oldOf W) h (Value.int k) rs[j]! L[j]!) ∧ bidN rs[j]! = 0 ∧ (∀ z ∈ L[j]!, (Lit.int k z).wf = true) ∧ L[j]!.length * P.bytesOf q ≤ reachBytes := by
  obtain ⟨cs, h1, h2, h3, h4⟩ := rd_raw ht hc hby h hsz fun c n y hy b o hcell => by
    rcases DataW.trod_slice he hy with ⟨h5, _⟩ | ⟨a, len, cap, elems, rest, n', rfl, h5, rfl, hb, hl, hm, hlen, hel, hsp, _⟩
    · simp only [List.cons.injEq, and_true] at h5
      subst h5
      exact abs_plain hcell rfl rfl
    · simp only [List.cons.injEq, and_true] at h5
      subst h5
      obtain ⟨hr1, hr2⟩ := hsp rfl
      obtain ⟨b', o', sp⟩ := a
      cases sp with
      | none => exact abs_plain hcell rfl rfl
      | some s =>
        by_cases hz : cap = 0
        · have hl0 : len = 0 := by omega
          subst hz hl0
          exact oldOf_odd hcell
        · exfalso
          have hcell0 : ∃ c, W.cell? (⟨b', o', some s⟩ : Addr) = some c := by
            by_cases h0 : 0 < len
            · have := hel 0 h0
              rw [hcq, Nat.mul_one, List.getElem?_eq_getElem (by omega)] at this
              simp only [Option.bind_eq_some_iff] at this
              obtain ⟨cs, h6, _⟩ := this
              unfold World.cells? at h6
              split at h6
              · simp only [List.range_one, List.mapM_cons, List.mapM_nil] at h6
                cases hq' : W.cell? (((⟨b', o', some s⟩ : Addr).add 0).add 0) with
                | none => rw [hq'] at h6; cases h6
                | some c => exact ⟨c, hq'⟩
              · cases h6
            · have := hr2 0 (by omega)
              rw [hcq, Nat.mul_one, List.getElem?_eq_getElem (by omega), show len + 0 = 0 by omega] at this
              simp only [Option.bind_eq_some_iff] at this
              obtain ⟨cs, h6, _⟩ := this
              unfold World.cells? at h6
              split at h6
              · simp only [List.range_one, List.mapM_cons, List.mapM_nil] at h6
                cases hq' : W.cell? (((⟨b', o', some s⟩ : Addr).add 0).add 0) with
                | none => rw [hq'] at h6; cases h6
                | some c => exact ⟨c, hq'⟩
              · cases h6
          obtain ⟨c, hcell0⟩ := hcell0
          simp only [World.cell?] at hcell0
          split at hcell0
          · simp at hcell0
          · cases hcell0
  have each : ∀ cs : List Value, (∀ c ∈ cs, ∃ n y, DataW.trod enc P W base (fun _ => true) held n e [c] = some y ∧ ∀ m ∈ y.1.weights P e, m ≤ reachBytes) →
      ∃ L : List (List Int), cs.length = L.length ∧ ∀ j, j < L.length → (∀ h, Rd (oldOf W) h (Value.int k) (cs.map absV)[j]! L[j]!) ∧ bidN (cs.map absV)[j]! = 0 ∧ (∀ z ∈ L[j]!, (Lit.int k z).wf = true) ∧ L[j]!.length * P.bytesOf q ≤ reachBytes := by
    intro cs
    induction cs with
    | nil => intro _; exact ⟨[], rfl, fun j hj => by simp at hj⟩
    | cons c cs ih =>
      intro hall
      obtain ⟨L, hL1, hL2⟩ := ih fun c hc => hall c (by simp [hc])
      obtain ⟨n, y, hy, hw⟩ := hall c (by simp)
      obtain ⟨l, l1, l2, l3, l4⟩ := rd_ints' he hq hcq hbq hy hw
      refine ⟨l :: L, by simp [hL1], fun j hj => ?_⟩
      cases j with
      | zero => exact ⟨by simpa using l1, by simpa using l2, by simpa using l3, by simpa using l4⟩
      | succ j => simpa using hL2 j (by simpa using hj)
  obtain ⟨L, hL1, hL2⟩ := each cs h3
  exact ⟨cs.map absV, L, h1, h2, by simp [hL1], by simpa using h4, hL2⟩
end
section
variable {H : Type} {enc : TypeId × Value → H} {P : Program} {W : World} {base : Nat} {held : Bool}
theorem okWide_spot {r : Reach} {b : Nat} {u : TypeId} {a : Addr} {n c : Nat} (h : Cell.okWide P W r b u (.slice (some a) n c)) : a.spot = none := by
  unfold Cell.okWide at h
  split at h
  all_goals first | (rename_i heq; cases heq; done) | skip
  unfold Cell.ok at h
  split at h
  all_goals first | (rename_i heq; cases heq; done) | skip
  · rename_i e a' len cap _ heq
    cases heq
    exact h.2.2.2.1
  · exact h.elim
theorem abs_ok {r : Reach} {b : Nat} {u : TypeId} {v : Value} (h : Cell.okWide P W r b u v) : absV v = v := by
  unfold absV
  split
  · rename_i b' o k
    have := okWide_spot h
    cases this
  · rfl
/-- an argument that is a structure of three parts, of one cell each -/
theorem open_three {t : TypeId} {f0 f1 f2 : Field} {b : Nat} {v : Value} {d : DataW H} {ps : List MemPlace} (ht : P.underlying t = some (.struct #[f0, f1, f2])) (o0 : f0.offset = 0) (o1 : f1.offset = 1) (o2 : f2.offset = 2)
    (c0 : P.cellsOf f0.type = 1) (c1 : P.cellsOf f1.type = 1) (c2 : P.cellsOf f2.type = 1) (ct : P.cellsOf t = 3) (hv : Value.okWide P W .any b t v) (h : DataW.Trod enc P W base (fun _ => true) held t v d ps) (hsz : ∀ n ∈ d.weights P t, n ≤ reachBytes) :
    ∃ (n : Nat) (a0 a1 a2 : Value) (y0 y1 y2 : DataW H × List MemPlace), v = .agg [a0, a1, a2].toArray ∧ absV a0 = a0 ∧ absV a1 = a1 ∧ absV a2 = a2 ∧
      DataW.trod enc P W base (fun _ => true) held n f0.type [a0] = some y0 ∧ DataW.trod enc P W base (fun _ => true) held n f1.type [a1] = some y1 ∧ DataW.trod enc P W base (fun _ => true) held n f2.type [a2] = some y2 ∧
      (∀ m ∈ y0.1.weights P f0.type, m ≤ reachBytes) ∧ (∀ m ∈ y1.1.weights P f1.type, m ≤ reachBytes) ∧ ∀ m ∈ y2.1.weights P f2.type, m ≤ reachBytes := by
  unfold Value.okWide at hv
  rw [ht] at hv
  obtain ⟨cs, rfl, hcs, ts, _, _, hrow⟩ := hv
  rw [ct] at hcs
  obtain ⟨l⟩ := cs
  simp only [List.size_toArray] at hcs
  obtain ⟨a0, a1, a2, rfl⟩ : ∃ a0 a1 a2, l = [a0, a1, a2] := by
    rcases l with _ | ⟨a0, _ | ⟨a1, _ | ⟨a2, _ | ⟨a3, l⟩⟩⟩⟩ <;> simp at hcs
    exact ⟨a0, a1, a2, rfl⟩
  obtain ⟨n, hn⟩ := h
  cases n with
  | zero => simp [DataW.trod] at hn
  | succ n =>
    have habs : ∀ i c, ([a0, a1, a2] : List Value)[i]? = some c → absV c = c := fun i c hc => by
      obtain ⟨u, _, hu⟩ := hrow i c (by simpa using hc)
      exact abs_ok hu
    unfold DataW.trod at hn
    simp only [ht, Value.cells] at hn
    rw [if_pos (by simp [ct])] at hn
    simp only [Option.map_eq_some_iff, List.mapM_cons, List.mapM_nil] at hn
    obtain ⟨xs, hx, hd⟩ := hn
    simp only [o0, o1, o2, c0, c1, c2, List.drop_zero, List.drop_succ_cons, List.take_succ_cons, List.take_zero] at hx
    cases h0 : DataW.trod enc P W base (fun _ => true) held n f0.type [a0] with
    | none => simp [h0] at hx
    | some y0 =>
      cases h1 : DataW.trod enc P W base (fun _ => true) held n f1.type [a1] with
      | none => simp [h0, h1] at hx
      | some y1 =>
        cases h2 : DataW.trod enc P W base (fun _ => true) held n f2.type [a2] with
        | none => simp [h0, h1, h2] at hx
        | some y2 =>
          have hxs : xs = [y0, y1, y2] := by simpa [h0, h1, h2] using hx.symm
          subst hxs
          simp only [Prod.mk.injEq] at hd
          obtain ⟨rfl, rfl⟩ := hd
          have hw : ∀ m, (m ∈ y0.1.weights P f0.type ∨ m ∈ y1.1.weights P f1.type ∨ m ∈ y2.1.weights P f2.type) → m ≤ reachBytes := fun m hm => hsz m (by
            simp only [DataW.weights, ht, List.map_cons, List.map_nil, DataW.weightsEach, List.mem_append]
            rcases hm with hm | hm | hm
            · exact Or.inl hm
            · exact Or.inr (Or.inl hm)
            · exact Or.inr (Or.inr (Or.inl hm)))
          exact ⟨n, a0, a1, a2, y0, y1, y2, rfl, habs 0 _ rfl, habs 1 _ rfl, habs 2 _ rfl, h0, h1, h2, fun m hm => hw m (Or.inl hm), fun m hm => hw m (Or.inr (Or.inl hm)), fun m hm => hw m (Or.inr (Or.inr hm))⟩
theorem abs_ids {a : Value} (h : absV a = a) (hb : bidN a = 0) (hs : ∃ x y z, a = .slice x y z) : ids 0 a = [] := by
  obtain ⟨x, y, z, rfl⟩ := hs
  rcases x with _ | ⟨b, o, _ | k⟩
  · rfl
  · rfl
  · simp [bidN, bidA] at hb
end
section
variable {H : Type} {enc : TypeId × Value → H} {P : Program} {W : World} {base : Nat} {held : Bool}
theorem trod_is_slice {t e : TypeId} {n : Nat} {v : Value} {x : DataW H × List MemPlace} (ht : P.underlying t = some (.slice e)) (h : DataW.trod enc P W base (fun _ => true) held n t [v] = some x) : ∃ a b c, v = .slice a b c := by
  rcases DataW.trod_slice ht h with ⟨h1, _⟩ | ⟨a, len, cap, _, _, _, _, h1, _⟩
  · exact ⟨_, _, _, by simpa using h1⟩
  · exact ⟨_, _, _, by simpa using h1⟩
theorem okWide_one {t : TypeId} {b : Nat} {v : Value} (ht : ∀ fs, P.underlying t ≠ some (.struct fs)) (ht' : ∀ n e, P.underlying t ≠ some (.array n e)) (hv : Value.okWide P W .any b t v) : Cell.okWide P W .any b t v := by
  unfold Value.okWide at hv
  split at hv
  · rename_i fs h; exact (ht fs h).elim
  · rename_i n e h; exact (ht' n e h).elim
  · exact hv
theorem open_str {t : TypeId} {b : Nat} {v : Value} {d : DataW H} {ps : List MemPlace} (ht : P.underlying t = some .string) (hv : Value.okWide P W .any b t v) (h : DataW.Trod enc P W base (fun _ => true) held t v d ps) (hsz : ∀ n ∈ d.weights P t, n ≤ reachBytes) :
    ∃ s : ByteArray, v = .string s ∧ s.size ≤ reachBytes := by
  have hc := okWide_one (by simp [ht]) (by simp [ht]) hv
  obtain ⟨n, hn⟩ := h
  obtain ⟨s, h1, h2, _⟩ := DataW.trod_string ht hn
  have hv' : v = .string s := by
    unfold Cell.okWide at hc
    simp only [ht, Cell.ok] at hc
    cases v <;> first | (exfalso; simp at hc; done) | (simpa [Value.cells] using h1)
  simp only [Prod.mk.injEq] at h2
  exact ⟨s, hv', by have := hsz s.data.toList.length (by rw [h2.1]; simp [DataW.weights]); simpa using this⟩
theorem open_num {t : TypeId} {k : IntKind} {b : Nat} {v : Value} {d : DataW H} {ps : List MemPlace} (ht : P.underlying t = some (.int k)) (hv : Value.okWide P W .any b t v) (h : DataW.Trod enc P W base (fun _ => true) held t v d ps) :
    ∃ z : Int, v = .int k z ∧ (Lit.int k z).wf = true := by
  have hc := okWide_one (by simp [ht]) (by simp [ht]) hv
  obtain ⟨n, hn⟩ := h
  obtain ⟨z, h1, _, h2⟩ := DataW.trod_int ht hn
  refine ⟨z, ?_, h2⟩
  unfold Cell.okWide at hc
  simp only [ht, Cell.ok] at hc
  cases v <;> first | (exfalso; simp at hc; done) | (simpa [Value.cells] using h1)
theorem open_flag {t : TypeId} {b : Nat} {v : Value} {d : DataW H} {ps : List MemPlace} (ht : P.underlying t = some .bool) (hv : Value.okWide P W .any b t v) (h : DataW.Trod enc P W base (fun _ => true) held t v d ps) :
    ∃ z : Bool, v = .bool z := by
  have hc := okWide_one (by simp [ht]) (by simp [ht]) hv
  obtain ⟨n, hn⟩ := h
  obtain ⟨z, h1, _⟩ := DataW.trod_bool ht hn
  refine ⟨z, ?_⟩
  unfold Cell.okWide at hc
  simp only [ht, Cell.ok] at hc
  cases v <;> first | (exfalso; simp at hc; done) | (simpa [Value.cells] using h1)
theorem wf64 {z : Int} (h : (Lit.int .i64 z).wf = true) : -9223372036854775808 ≤ z ∧ z ≤ 9223372036854775807 := by
  simp [Lit.wf, IntKind.min, IntKind.max, IntKind.signed, IntKind.bits] at h
  omega
theorem weights_at {ts : List TypeId} {ds : List (DataW H)} (h : (DataW.weightsEach P ts ds).all (· ≤ reachBytes) = true) {j : Nat} {t : TypeId} {d : DataW H} (ht : ts[j]? = some t) (hd : ds[j]? = some d) : ∀ n ∈ d.weights P t, n ≤ reachBytes := fun n hn => by
  have := List.all_eq_true.1 h n (DataW.weights_mem_each ht hd n hn)
  simpa using this
end
end Go.Itp
/-
  Arguments of more kinds: lists and lists of lists of any elements of one cell; structures of two parts.
-/
namespace Go.Itp
set_option linter.unusedVariables false
set_option linter.unusedSimpArgs false
open Go.ChangeShapes Go.WideShapes
section
variable {H : Type} {enc : TypeId × Value → H} {P : Program} {W : World} {base : Nat} {held : Bool}
/-- a list of elements of one cell each -/
theorem rd_list {α : Type} {f : α → Value} {Q : α → Prop} (hf : ∀ a, absV (f a) = f a ∧ ids 0 (f a) = []) (hinj : ∀ a b, f a = f b → a = b) {t e : TypeId} {fuel : Nat} {v : Value} {x : DataW H × List MemPlace}
    (hdec : ∀ (c : Value) (n : Nat) (y : DataW H × List MemPlace), DataW.trod enc P W base (fun _ => true) held n e [c] = some y → (∀ m ∈ y.1.weights P e, m ≤ reachBytes) → ∃ a, c = f a ∧ Q a)
    (hdec' : ∀ (c : Value) (n : Nat) (y : DataW H × List MemPlace), DataW.trod enc P W base (fun _ => true) held n e [c] = some y → ∃ a, c = f a)
    (ht : P.underlying t = some (.slice e)) (hc : P.cellsOf e = 1) (hby : 0 < P.bytesOf e)
    (h : DataW.trod enc P W base (fun _ => true) held fuel t [v] = some x) (hsz : ∀ n ∈ x.1.weights P t, n ≤ reachBytes) :
    ∃ l : List α, (∀ h, Rd (oldOf W) h f (absV v) l) ∧ bidN (absV v) = 0 ∧ (∀ a ∈ l, Q a) ∧ l.length * P.bytesOf e ≤ reachBytes := by
  obtain ⟨cs, h1, h2, h3, h4⟩ := rd_raw ht hc hby h hsz fun c n y hy b o hcell => by
    obtain ⟨a, rfl⟩ := hdec' c n y hy
    exact abs_plain hcell (hf a).2 (hf a).1
  have hstr : ∀ c ∈ cs, ∃ a, c = f a ∧ Q a := fun c hc' => by
    obtain ⟨n, y, hy, hw⟩ := h3 c hc'
    exact hdec c n y hy hw
  obtain ⟨l, hl1, hl2⟩ := map_of f cs fun c hc' => by
    obtain ⟨a, h5, _⟩ := hstr c hc'
    exact ⟨a, h5, (hf a).1⟩
  refine ⟨l, fun h => Rd.of_map (by rw [← hl1]; exact h1 h), h2, fun z hz => ?_, by rw [hl2] at h4; simpa using h4⟩
  obtain ⟨a, h5, h6⟩ := hstr (f z) (by rw [hl2]; exact List.mem_map_of_mem hz)
  rw [hinj _ _ h5]
  exact h6
/-- a list of slices -/
theorem rd_slices {α : Type} [Inhabited α] {R : α → Value → Prop} {t e q : TypeId} {fuel : Nat} {v : Value} {x : DataW H × List MemPlace} (ht : P.underlying t = some (.slice e)) (he : P.underlying e = some (.slice q)) (hc : P.cellsOf e = 1) (hby : 0 < P.bytesOf e)
    (hcq : P.cellsOf q = 1) (h : DataW.trod enc P W base (fun _ => true) held fuel t [v] = some x) (hsz : ∀ n ∈ x.1.weights P t, n ≤ reachBytes)
    (hin : ∀ (c : Value) (n : Nat) (y : DataW H × List MemPlace), DataW.trod enc P W base (fun _ => true) held n e [c] = some y → (∀ m ∈ y.1.weights P e, m ≤ reachBytes) → ∃ a, R a (absV c)) :
    ∃ (rs : List Value) (L : List α), (∀ h, Rd (oldOf W) h (fun x : Value => x) (absV v) rs) ∧ bidN (absV v) = 0 ∧ rs.length = L.length ∧ rs.length * P.bytesOf e ≤ reachBytes ∧ ∀ j, j < L.length → R L[j]! rs[j]! := by
  obtain ⟨cs, h1, h2, h3, h4⟩ := rd_raw ht hc hby h hsz fun c n y hy b o hcell => by
    rcases DataW.trod_slice he hy with ⟨h5, _⟩ | ⟨a, len, cap, elems, rest, n', rfl, h5, rfl, hb, hl, hm, hlen, hel, hsp, _⟩
    · simp only [List.cons.injEq, and_true] at h5
      subst h5
      exact abs_plain hcell rfl rfl
    · simp only [List.cons.injEq, and_true] at h5
      subst h5
      obtain ⟨hr1, hr2⟩ := hsp rfl
      obtain ⟨b', o', sp⟩ := a
      cases sp with
      | none => exact abs_plain hcell rfl rfl
      | some s =>
        by_cases hz : cap = 0
        · have hl0 : len = 0 := by omega
          subst hz hl0
          exact oldOf_odd hcell
        · exfalso
          have hcell0 : ∃ c, W.cell? (⟨b', o', some s⟩ : Addr) = some c := by
            by_cases h0 : 0 < len
            · have := hel 0 h0
              rw [hcq, Nat.mul_one, List.getElem?_eq_getElem (by omega)] at this
              simp only [Option.bind_eq_some_iff] at this
              obtain ⟨cs, h6, _⟩ := this
              unfold World.cells? at h6
              split at h6
              · simp only [List.range_one, List.mapM_cons, List.mapM_nil] at h6
                cases hq' : W.cell? (((⟨b', o', some s⟩ : Addr).add 0).add 0) with
                | none => rw [hq'] at h6; cases h6
                | some c => exact ⟨c, hq'⟩
              · cases h6
            · have := hr2 0 (by omega)
              rw [hcq, Nat.mul_one, List.getElem?_eq_getElem (by omega), show len + 0 = 0 by omega] at this
              simp only [Option.bind_eq_some_iff] at this
              obtain ⟨cs, h6, _⟩ := this
              unfold World.cells? at h6
              split at h6
              · simp only [List.range_one, List.mapM_cons, List.mapM_nil] at h6
                cases hq' : W.cell? (((⟨b', o', some s⟩ : Addr).add 0).add 0) with
                | none => rw [hq'] at h6; cases h6
                | some c => exact ⟨c, hq'⟩
              · cases h6
          obtain ⟨c, hcell0⟩ := hcell0
          simp only [World.cell?] at hcell0
          split at hcell0
          · simp at hcell0
          · cases hcell0
  have each : ∀ cs : List Value, (∀ c ∈ cs, ∃ n y, DataW.trod enc P W base (fun _ => true) held n e [c] = some y ∧ ∀ m ∈ y.1.weights P e, m ≤ reachBytes) →
      ∃ L : List α, cs.length = L.length ∧ ∀ j, j < L.length → R L[j]! (cs.map absV)[j]! := by
    intro cs
    induction cs with
    | nil => intro _; exact ⟨[], rfl, fun j hj => by simp at hj⟩
    | cons c cs ih =>
      intro hall
      obtain ⟨L, hL1, hL2⟩ := ih fun c hc => hall c (by simp [hc])
      obtain ⟨n, y, hy, hw⟩ := hall c (by simp)
      obtain ⟨a, ha⟩ := hin c n y hy hw
      refine ⟨a :: L, by simp [hL1], fun j hj => ?_⟩
      cases j with
      | zero => simpa using ha
      | succ j => simpa using hL2 j (by simpa using hj)
  obtain ⟨L, hL1, hL2⟩ := each cs h3
  exact ⟨cs.map absV, L, h1, h2, by simp [hL1], by simpa using h4, hL2⟩
theorem dec_bool {e : TypeId} (he : P.underlying e = some .bool) (c : Value) (n : Nat) (y : DataW H × List MemPlace) (h : DataW.trod enc P W base (fun _ => true) held n e [c] = some y) : ∃ b : Bool, c = .bool b := by
  obtain ⟨z, h1, _⟩ := DataW.trod_bool he h
  exact ⟨z, by simpa using h1⟩
/-- a list of bools -/
theorem rd_bools {t e : TypeId} {fuel : Nat} {v : Value} {x : DataW H × List MemPlace} (ht : P.underlying t = some (.slice e)) (he : P.underlying e = some .bool) (hc : P.cellsOf e = 1) (hby : 0 < P.bytesOf e)
    (h : DataW.trod enc P W base (fun _ => true) held fuel t [v] = some x) (hsz : ∀ n ∈ x.1.weights P t, n ≤ reachBytes) :
    ∃ l : List Bool, (∀ h, Rd (oldOf W) h Value.bool (absV v) l) ∧ bidN (absV v) = 0 ∧ l.length * P.bytesOf e ≤ reachBytes := by
  obtain ⟨l, h1, h2, _, h4⟩ := rd_list (f := Value.bool) (Q := fun _ => True) (fun a => ⟨rfl, rfl⟩) (fun a b h => by cases h; rfl) (fun c n y h _ => by
    obtain ⟨b, hb⟩ := dec_bool he c n y h; exact ⟨b, hb, trivial⟩) (fun c n y h => dec_bool he c n y h) ht hc hby h hsz
  exact ⟨l, h1, h2, h4⟩
/-- a list of lists of bools -/
theorem rd_rows_bool {t e q : TypeId} {fuel : Nat} {v : Value} {x : DataW H × List MemPlace} (ht : P.underlying t = some (.slice e)) (he : P.underlying e = some (.slice q)) (hq : P.underlying q = some .bool) (hc : P.cellsOf e = 1) (hby : 0 < P.bytesOf e)
    (hcq : P.cellsOf q = 1) (hbq : 0 < P.bytesOf q) (h : DataW.trod enc P W base (fun _ => true) held fuel t [v] = some x) (hsz : ∀ n ∈ x.1.weights P t, n ≤ reachBytes) :
    ∃ (rs : List Value) (L : List (List Bool)), (∀ h, Rd (oldOf W) h (fun x : Value => x) (absV v) rs) ∧ bidN (absV v) = 0 ∧ rs.length = L.length ∧ rs.length * P.bytesOf e ≤ reachBytes ∧
      ∀ j, j < L.length → (∀ h, Rd (oldOf W) h Value.bool rs[j]! L[j]!) ∧ bidN rs[j]! = 0 ∧ L[j]!.length * P.bytesOf q ≤ reachBytes :=
  rd_slices (R := fun (l : List Bool) c => (∀ h, Rd (oldOf W) h Value.bool c l) ∧ bidN c = 0 ∧ l.length * P.bytesOf q ≤ reachBytes) ht he hc hby hcq h hsz fun c n y hy hw => rd_bools he hq hcq hbq hy hw
/-- an argument that is a structure of two parts, of one cell each -/
theorem open_two {t : TypeId} {f0 f1 : Field} {b : Nat} {v : Value} {d : DataW H} {ps : List MemPlace} (ht : P.underlying t = some (.struct #[f0, f1])) (o0 : f0.offset = 0) (o1 : f1.offset = 1)
    (c0 : P.cellsOf f0.type = 1) (c1 : P.cellsOf f1.type = 1) (ct : P.cellsOf t = 2) (hv : Value.okWide P W .any b t v) (h : DataW.Trod enc P W base (fun _ => true) held t v d ps) (hsz : ∀ n ∈ d.weights P t, n ≤ reachBytes) :
    ∃ (n : Nat) (a0 a1 : Value) (y0 y1 : DataW H × List MemPlace), v = .agg [a0, a1].toArray ∧ absV a0 = a0 ∧ absV a1 = a1 ∧
      DataW.trod enc P W base (fun _ => true) held n f0.type [a0] = some y0 ∧ DataW.trod enc P W base (fun _ => true) held n f1.type [a1] = some y1 ∧
      (∀ m ∈ y0.1.weights P f0.type, m ≤ reachBytes) ∧ (∀ m ∈ y1.1.weights P f1.type, m ≤ reachBytes) := by
  unfold Value.okWide at hv
  rw [ht] at hv
  obtain ⟨cs, rfl, hcs, ts, _, _, hrow⟩ := hv
  rw [ct] at hcs
  obtain ⟨l⟩ := cs
  simp only [List.size_toArray] at hcs
  obtain ⟨a0, a1, rfl⟩ : ∃ a0 a1, l = [a0, a1] := by
    rcases l with _ | ⟨a0, _ | ⟨a1, _ | ⟨a2, l⟩⟩⟩ <;> simp at hcs
    exact ⟨a0, a1, rfl⟩
  obtain ⟨n, hn⟩ := h
  cases n with
  | zero => simp [DataW.trod] at hn
  | succ n =>
    have habs : ∀ i c, ([a0, a1] : List Value)[i]? = some c → absV c = c := fun i c hc => by
      obtain ⟨u, _, hu⟩ := hrow i c (by simpa using hc)
      exact abs_ok hu
    unfold DataW.trod at hn
    simp only [ht, Value.cells] at hn
    rw [if_pos (by simp [ct])] at hn
    simp only [Option.map_eq_some_iff, List.mapM_cons, List.mapM_nil] at hn
    obtain ⟨xs, hx, hd⟩ := hn
    simp only [o0, o1, c0, c1, List.drop_zero, List.drop_succ_cons, List.take_succ_cons, List.take_zero] at hx
    cases h0 : DataW.trod enc P W base (fun _ => true) held n f0.type [a0] with
    | none => simp [h0] at hx
    | some y0 =>
      cases h1 : DataW.trod enc P W base (fun _ => true) held n f1.type [a1] with
      | none => simp [h0, h1] at hx
      | some y1 =>
        have hxs : xs = [y0, y1] := by simpa [h0, h1] using hx.symm
        subst hxs
        simp only [Prod.mk.injEq] at hd
        obtain ⟨rfl, rfl⟩ := hd
        have hw : ∀ m, (m ∈ y0.1.weights P f0.type ∨ m ∈ y1.1.weights P f1.type) → m ≤ reachBytes := fun m hm => hsz m (by
          simp only [DataW.weights, ht, List.map_cons, List.map_nil, DataW.weightsEach, List.mem_append]
          rcases hm with hm | hm
          · exact Or.inl hm
          · exact Or.inr (Or.inl hm))
        exact ⟨n, a0, a1, y0, y1, rfl, habs 0 _ rfl, habs 1 _ rfl, h0, h1, fun m hm => hw m (Or.inl hm), fun m hm => hw m (Or.inr hm)⟩
end
end Go.Itp
/-
  A law's entry: its arguments lie in old memory; from the walk to the run of its body.
-/
namespace Go.Itp
set_option linter.unusedVariables false
section
variable {old : Nat → Nat → Option Value} {rounds : Nat} {fns : FuncId → Option AFun} {prims : FuncId → List Value → St → Option (Value × List Blk)} {n : Nat} {xs : List V} {af : AFun}
abbrev wOld (old : Nat → Nat → Option Value) : VW := ⟨fun a => match a.spot with | none => old a.block a.off | some _ => none, fun _ => False, fun _ => none, 0⟩
theorem aload_empty (E : Env) (h : E.old = old) : aload E ([] : Heap) = (wOld old).ld := by
  funext a
  unfold aload
  split
  · rename_i e; show _ = (match a.spot with | none => old a.block a.off | some _ => none); rw [e, h]
  · rename_i k e; show _ = (match a.spot with | none => old a.block a.off | some _ => none); rw [e]; rfl
theorem law_v {xsI : List Value} {x : Value} (hlen : xs.length ≤ af.n) (hx : VRepL (wOld old) xs xsI)
    (h : ∀ C : Ctx, C.E = callP old rounds fns prims n → C.w0.nx = 0 → gC C af.code [] (vargs 0 xs) ⟨[], 0, 0⟩ (RetV C af.res (.sc x) ⟨[], 0, 0⟩)) : ∃ s', body (callP old rounds fns prims n) af xsI St.empty = some (x, s') := by
  let C : Ctx := C1 (callP old rounds fns prims n) St.empty (noW (callP old rounds fns prims n) [] fun _ => False)
  have hs : SR C ⟨[], 0, 0⟩ ⟨St.empty.heap, St.empty.next, St.empty.next⟩ (fun _ => none) fun _ => False := SR.start (fun b hb => hb.elim) (fun b blk e => by simp [St.empty, hget] at e)
  have hx' : VRepL (wof C ⟨[], 0, 0⟩ ⟨St.empty.heap, St.empty.next, St.empty.next⟩ (fun _ => none) fun _ => False) xs xsI := by
    show VRepL ⟨aload (callP old rounds fns prims n) ([] : Heap), fun _ => False, fun _ => none, 0⟩ xs xsI
    rw [aload_empty _ (callP_old' n)]; exact hx
  obtain ⟨vI, sf, hbody, μ, G, g1, g2, g3, g4, g5⟩ := body_v (C := C) (s := ⟨St.empty.heap, St.empty.next, St.empty.next⟩) hlen (h C rfl rfl) ⟨_, _, hs, vargs_ok 0 hx', VW.le.refl _, rfl, fun b hb => .inl hb⟩ hx.length
  simp only [VRep] at g2
  rw [g2.1] at hbody
  exact ⟨sf, hbody⟩
/-! ### lists of old memory -/
theorem drepA_old {α : Type} {W : VW} (g : α → D) (f : α → Value) : ∀ (l : List α) (a : Addr), (∀ k (hk : k < l.length), W.ld (aadd a k) = some (f l[k])) → (∀ x ∈ l, DRep W (g x) (f x)) → DRepA W (l.map g) a
  | [], a, _, _ => by simp only [List.map_nil, DRepA]
  | x :: r, a, h, hg => by
    simp only [List.map_cons, DRepA]
    refine ⟨⟨f x, ?_, hg x (List.mem_cons_self ..)⟩, drepA_old g f r _ (fun k hk => ?_) fun y hy => hg y (List.mem_cons_of_mem _ hy)⟩
    · have := h 0 (by simp)
      simpa [aadd] using this
    · have := h (k + 1) (by simpa using hk)
      rw [show aadd (aadd a 1) k = aadd a (k + 1) from by simp only [aadd, Nat.add_assoc, Nat.add_comm 1 k]]
      simpa using this
theorem vrep_old {α : Type} {f : α → Value} {v : Value} {l : List α} (g : α → D) (r : Rd old [] f v l) (hb : bidN v = 0) (hv : v = .slice none 0 0 ∨ ∃ a n c, v = .slice (some a) n c) (hg : ∀ x ∈ l, DRep (wOld old) (g x) (f x)) : VRep (wOld old) (.sl 3 l.length (l.map g)) v := by
  simp only [VRep, DRep]
  rcases r.is with ⟨a, c, rfl, h1, h2⟩ | ⟨h1, k, b, m, rfl⟩
  · rcases h2 with ⟨rfl, rfl⟩ | ⟨ad, rfl, _, h3⟩
    · rcases hv with hv | ⟨a, m, c', hv⟩
      · exact .inr ⟨by omega, rfl, rfl, .inl hv⟩
      · cases hv
    · have hs : ad.spot = none := by
        obtain ⟨b, o, s⟩ := ad
        cases s with
        | none => rfl
        | some k => simp [bidN, bidA] at hb
      refine .inl ⟨ad, c, rfl, by unfold VW.inF; rw [hs]; trivial, h1, drepA_old g f l ad (fun k hk => ?_) hg, by omega⟩
      have := h3 k hk
      unfold aloadO at this
      have hs2 : (aadd ad k).spot = none := hs
      rw [hs2] at this
      show (match (aadd ad k).spot with | none => old (aadd ad k).block (aadd ad k).off | some _ => none) = _
      rw [hs2]; exact this
  · rcases hv with hv | ⟨a, m, c', hv⟩ <;> cases hv
end
end Go.Itp
/-
  Calls of functions that write the caller's objects: their bodies are walked in the caller's memory.
-/
namespace Go.Itp
set_option linter.unusedVariables false
set_option linter.constructorNameAsVariable false
section
variable {old : Nat → Nat → Option Value} {rounds : Nat} {fns : FuncId → Option AFun} {prims : FuncId → List Value → St → Option (Value × List Blk)} {n : Nat} {f : FuncId} {xs : List V} {v : V} {st st1 : VSt} {af : AFun} {C : Ctx}
theorem SR.env2 {s : St} {μ : Nat → Option Nat} {F : Nat → Prop} (h : SR C st s μ F) {C' : Ctx} (hE : aload C'.E = aload C.E) (hn : C'.n0 ≤ s.next) (hU : ∀ b, (C'.U b → b < C'.n0 ∧ hget s.heap b = hget C'.h0 b) ∧ (C'.U b → C.U b)) : SR C' st s μ F := by
  have hw : wof C' st s μ F = wof C st s μ F := by
    show (⟨aload C'.E s.heap, F, μ, st.next⟩ : VW) = ⟨aload C.E s.heap, F, μ, st.next⟩
    rw [hE]
  refine ⟨fun o ob e hnn => ?_, fun o ob b e1 e2 e3 => ?_, h.fz, h.inj, h.dom, h.lt, h.cl, fun b hb => (hU b).1 hb, hn, h.own, h.hb, h.pr, h.pb⟩
  · rw [hw]; exact h.obj o ob e hnn
  · obtain ⟨q1, q2⟩ := h.wr o ob b e1 e2 e3
    exact ⟨q1, fun hr => ⟨(q2 hr).1, fun hu => (q2 hr).2 ((hU b).2 hu)⟩⟩
/-- a call of a function that is walked in the caller's memory -/
theorem callV_w {Q : V → VSt → Prop} (hC : C.E = callP old rounds fns prims (n + 1)) (hf : fns f = some af) (hpu : af.pure = false) (hp : ∀ xs s, prims f xs s = none) (hlen : xs.length ≤ af.n) (hq : Q v st1)
    (h : ∀ C' : Ctx, C'.E = callP old rounds fns prims n → C'.w0.nx = st.next → gC C' af.code [] (vargs 0 xs) st (RetV C' af.res v st1)) : CallV C f xs st Q := by
  refine ⟨v, st1, hq, fun s μ F xsI hsr hx hpr => ?_⟩
  let C' : Ctx := ⟨callP old rounds fns prims n, s.next, s.heap, C.U, ⟨aload (callP old rounds fns prims n) s.heap, F, μ, st.next⟩, C.p0⟩
  have hE : aload C'.E = aload C.E := by rw [hC]; exact aload_eq _ _
  have hs' : SR C' st s μ F := hsr.env2 hE (Nat.le_refl _) (fun b => ⟨fun hb => ⟨by have := (hsr.un b hb).1; have := hsr.n0; show b < s.next; omega, rfl⟩, fun hb => hb⟩)
  have hx' : VRepL (wof C' st s μ F) xs xsI := by
    show VRepL ⟨aload C'.E s.heap, F, μ, st.next⟩ xs xsI
    rw [hE]; exact hx
  obtain ⟨vI, sf, hbody, μ', G, g1, g2, g3, g4, g5⟩ := body_v (C := C') (s := s) hlen (h C' rfl rfl) ⟨μ, F, hs', vargs_ok 0 hx', VW.le.refl _, hpr, fun b hb => .inl hb⟩ hx.length
  have hn : s.next ≤ sf.next := g1.n0
  have hw : wof C st1 sf μ' G = wof C' st1 sf μ' G := by
    show (⟨aload C.E sf.heap, G, μ', st1.next⟩ : VW) = ⟨aload C'.E sf.heap, G, μ', st1.next⟩
    rw [hE]
  have g1' : SR C st1 sf μ' G := g1.env2 hE.symm (by have := hsr.n0; omega) (fun b => ⟨fun hb => ⟨(hsr.un b hb).1, by rw [(g1.un b hb).2]; exact (hsr.un b hb).2⟩, fun hb => hb⟩)
  refine ⟨vI, sf, μ', G, ?_, g1', by rw [hw]; exact g2, ?_, by rw [g4, hpr], hn, fun b hb => ?_⟩
  · simp only [callI, hC, callP, hp, hf, Option.bind_some, hpu]
    exact hbody
  · rw [hw]
    show VW.le ⟨aload C.E s.heap, F, μ, st.next⟩ _
    rw [← hE]; exact g3
  · rcases g5 b hb with hb | hb
    · exact .inl hb
    · exact .inr (by rw [hpr]; exact hb)
end
end Go.Itp
/-
  More equations of the walk upon values without addresses: appends of made slices and within known room, methods behind interfaces, growing slices taken for rows.
-/
namespace Go.Itp
set_option linter.unusedVariables false
set_option linter.constructorNameAsVariable false
section
variable {C : Ctx} {st : VSt} {fr : VFr}
/-- a growing slice's object is a row -/
theorem weak_row {o t e : Nat} {z : Bool} {l : List D} (h : aget st.own o = some (.gro t e z l)) (hl : l ≠ []) : Weak C fr st fr ⟨aset st.own o (.row t e true z l), st.next, st.ro⟩ := by
  rintro s frI ⟨μ, F, h1, hf, h3⟩
  have hgn : (Obj.gro t e z l).none = false := by cases l with | nil => exact absurd rfl hl | cons => rfl
  have hown : ∀ i ob, aget (aset st.own o (.row t e true z l)) i = some ob → (i = o ∧ ob = .row t e true z l) ∨ (i ≠ o ∧ aget st.own i = some ob) := fun i ob e' => by
    rw [aget_aset _ _ _ _ _ h] at e'
    split at e'
    · rename_i hi; cases e'; exact .inl ⟨hi, rfl⟩
    · rename_i hi; exact .inr ⟨hi, e'⟩
  refine ⟨μ, F, ⟨?_, ?_, ?_, h1.inj, ?_, h1.lt, h1.cl, h1.un, h1.n0, ?_, h1.hb, h1.pr, h1.pb⟩, hf, h3⟩
  · intro i ob e' hn
    rcases hown i ob e' with ⟨rfl, rfl⟩ | ⟨hi, e1⟩
    · obtain ⟨b, blk, m1, m2, m3⟩ := h1.obj i _ h hgn
      exact ⟨b, blk, m1, m2, m3.1, m3.2.1, m3.2.2.1, m3.2.2.2⟩
    · exact h1.obj i ob e1 hn
  · intro i ob b e' e2 hz
    rcases hown i ob e' with ⟨rfl, rfl⟩ | ⟨hi, e1⟩
    · exact h1.wr i _ b h e2 hz
    · exact h1.wr i ob b e1 e2 hz
  · intro i ob b e' e2 hz
    rcases hown i ob e' with ⟨rfl, rfl⟩ | ⟨hi, e1⟩
    · exact h1.fz i _ b h e2 hz
    · exact h1.fz i ob b e1 e2 hz
  · intro i b e'
    obtain ⟨d1, d2, ob, d3, d4⟩ := h1.dom i b e'
    by_cases hi : i = o
    · subst hi; exact ⟨d1, d2, _, by simp only; rw [aget_aset _ _ _ _ _ h, if_pos rfl], rfl⟩
    · exact ⟨d1, d2, ob, by simp only; rw [aget_aset _ _ _ _ _ h, if_neg hi]; exact d3, d4⟩
  · intro i ob e'
    rcases hown i ob e' with ⟨rfl, rfl⟩ | ⟨hi, e1⟩
    · exact ⟨(h1.own i _ h).1, (h1.own i _ h).2⟩
    · exact h1.own i ob e1
/-- a growing slice that holds something is a part of its object -/
theorem same_gr {s o n : Nat} (hn : n ≠ 0) : VSame C st (.gr s o n) (.ref o 0 n (big + n)) := by
  intro s' μ F u h1 hv
  simp only [VRep] at hv ⊢
  obtain ⟨q1, ⟨h0, _⟩ | ⟨_, b', rfl, q⟩⟩ := hv
  · exact absurd h0 hn
  · exact ⟨q1, by unfold capOK; rw [knownCap_ge (by omega)]; omega, b', rfl, q⟩
end
theorem aset_aset {α : Type} : ∀ (r : List (Nat × α)) (i : Nat) (u v : α), aset (aset r i u) i v = aset r i v
  | [], i, u, v => rfl
  | (k, x) :: r, i, u, v => by
    rw [aset_cons', aset_cons']
    split
    · rename_i h; subst h; rw [aset_cons', if_pos rfl]
    · rename_i h; rw [aset_cons', if_neg h, aset_aset r i u v]
theorem aset_self {α : Type} : ∀ (r : List (Nat × α)) (i : Nat) (u : α), aget r i = some u → aset r i u = r
  | [], i, u, h => rfl
  | (k, x) :: r, i, u, h => by
    rw [aset_cons']
    rw [aget_cons] at h
    split
    · rename_i hk; rw [if_pos hk] at h; cases h; rfl
    · rename_i hk; rw [if_neg hk] at h; rw [aset_self r i u h]
theorem aget_aset_eq {α : Type} {r : List (Nat × α)} {i : Nat} {u v : α} (h : aget r i = some u) : aget (aset r i v) i = some v := by rw [aget_aset _ _ _ _ _ h, if_pos rfl]
theorem methIn_cons (u t : TypeId) (f : FuncId) (r : List (TypeId × FuncId)) : methIn ((u, f) :: r) t = if t = u then some f else methIn r t := by
  simp only [methIn]
  by_cases h : t = u
  · rw [if_pos (nbeq.2 h), if_pos h]
  · rw [if_neg (by rw [nbeq]; exact h), if_neg h]
section
variable {old : Nat → Nat → Option Value} {fr : VFr} {H : VHp} {nx : Nat}
theorem pv_appMk (t : TypeId) (e b : Nat) (z : List Value) (x y : Operand) : vpstep old fr H nx (.appMk t e b z x y) = op2 (vappMk nx t e b z) (vev fr x) (vev fr y) := (rfl)
theorem appMk_nil (t e b : Nat) (z : Value) (n : Nat) (hn : 0 < n) (h1 : n ≤ 1099511627776) (hz : scOK z = true) (h2 : n * b ≤ 1099511627776) : vappMk nx t e b [z] (.sc (.slice none 0 0)) (.sc (.int .i64 n)) = some (.gr 2 nx n, some (.gro t e false (List.replicate n (.sc z))), []) := by
  have hr : rep [z] n = List.replicate n z := by
    induction n with
    | zero => rfl
    | succ n ih =>
      rcases Nat.eq_zero_or_pos n with h0 | h0
      · subst h0; rfl
      · simp only [rep, List.replicate_succ]
        rw [ih h0 (by omega) (Nat.le_trans (Nat.mul_le_mul_right _ (Nat.le_succ n)) h2)]
        rfl
  simp only [vappMk]
  rw [if_neg (by omega), if_pos ⟨by omega, by unfold room; omega, by simp [hz], by simp⟩]
  simp only [Int.toNat_natCast]
  rw [if_pos (by rw [Nat.ble_eq]; exact h2), hr]
  simp [scD]
theorem appMk_zero (t e b : Nat) (z : List Value) (x : V) : vappMk nx t e b z x (.sc (.int .i64 0)) = (match x with
      | .sl s n l => if okD (.sl s n l) then some (.sl s n l, none, []) else none
      | .slk s n c l => some (.slk s n c l, none, [])
      | .ref o k n c => some (.ref o k n c, none, [])
      | .sc (.slice none _ _) => some (.sc (.slice none 0 0), none, [])
      | _ => none) := by
  simp only [vappMk, if_true]
  cases x <;> rfl
/-- an append within known room -/
def appRoom (st : VSt) (t e b o k n c : Nat) (ob : Option Obj) (src : Src) : Option (V × VSt) :=
  match ob, src with
  | some (.row t' e' g z l), some (m, new, fz) =>
    if okL new && !Nat.beq e 0 && rowsB st.ro st.own fz then (if !Nat.ble st.ro o || z || Nat.beq m 0 || !Nat.ble (n + m) room || !Nat.ble ((n + m) * b) room then none
            else if Nat.blt c big then (if Nat.ble (n + m) c && !elemB o fz then (putL l (k + n * e) new).map fun l => (.ref o k (n + m) c, ⟨aset (frozA fz st.own) o (.row t' e' g false l), st.next, st.ro⟩) else none)
            else if g && Nat.beq t' t && Nat.beq e' e && Nat.beq (k + n * e) l.length && Nat.beq c (big + n) && !elemB o fz then
              some (.gr 2 st.next (n + m), ⟨(st.next, .gro t e false (l.drop k ++ new)) :: frozA fz (adel o st.own), st.next + 1, st.ro⟩)
            else if Nat.ble (n + m) (c - big) && !elemB o fz && !(g && Nat.beq t' t && Nat.beq e' e && Nat.beq (k + n * e) l.length && Nat.beq c (big + n)) then (putL l (k + n * e) new).map fun l => (.ref o k (n + m) c, ⟨aset (frozA fz st.own) o (.row t' e' g false l), st.next, st.ro⟩)
            else none) else none
  | _, _ => none
theorem vappA_ref (st : VSt) (t e b o k n c : Nat) (y : V) : vappA st t e b (.ref o k n c) y = appRoom st t e b o k n c (aget st.own o) (srcOf st.own e y) := by
  simp only [vappA, srcOf]
  cases lenS y with
  | none => simp only [Option.bind_none, appRoom]; cases aget st.own o with | none => rfl | some ob => cases ob <;> rfl
  | some m =>
    simp only [Option.bind_some]
    cases srcD st.own e m y with
    | none => simp only [Option.bind_none, Option.map_none, appRoom]; cases aget st.own o with | none => rfl | some ob => cases ob <;> rfl
    | some r =>
      simp only [Option.bind_some, Option.map_some]
      cases aget st.own o with
      | none => simp only [appRoom]; split <;> rfl
      | some ob => cases ob <;> simp only [appRoom] <;> split <;> rfl
theorem putL_mid {α : Type} : ∀ (l : List α) (k : Nat) (m : List α), k + m.length ≤ l.length → putL l k m = some (l.take k ++ m ++ l.drop (k + m.length))
  | l, k, [], h => by simp [putL]
  | [], k, x :: m, h => by simp at h
  | a :: l, 0, x :: m, h => by
    simp only [List.length_cons] at h
    simp only [putL]
    rw [putL_mid l 0 m (by omega)]
    simp
  | a :: l, k + 1, x :: m, h => by
    simp only [List.length_cons] at h
    simp only [putL]
    rw [putL_mid l k (x :: m) (by simp only [List.length_cons]; omega)]
    simp only [Option.map_some, List.take_succ_cons, List.cons_append, List.length_cons]
    rw [show k + 1 + (m.length + 1) = k + (m.length + 1) + 1 by omega, List.drop_succ_cons]
/-- within the room of a row that has grown -/
theorem appRoom_in (H : VHp) (nx ro t e b o k n N t' e' m : Nat) (g : Bool) (l new : List D) (hro : ro ≤ o) (he : e ≠ 0) (hm : m ≠ 0) (hok : okL new = true) (hle : n + m ≤ N) (h1 : n + m ≤ 1099511627776) (h2 : (n + m) * b ≤ 1099511627776) (hl : k + n * e + new.length ≤ l.length) (hn : n ≠ N) :
    appRoom ⟨H, nx, ro⟩ t e b o k n (big + N) (some (.row t' e' g false l)) (some (m, new, [])) = some (.ref o k (n + m) (big + N), ⟨aset H o (.row t' e' g false (l.take (k + n * e) ++ new ++ l.drop (k + n * e + new.length))), nx, ro⟩) := by
  simp only [appRoom, hok]
  have hb : Nat.ble ro o = true := by rw [Nat.ble_eq]; exact hro
  have h3 : Nat.ble (n + m) room = true := by rw [Nat.ble_eq]; exact h1
  have h4 : Nat.ble ((n + m) * b) room = true := by rw [Nat.ble_eq]; exact h2
  have h5 : Nat.beq (big + N) (big + n) = false := nbf.2 (by omega)
  have h6 : Nat.ble (n + m) (big + N - big) = true := by rw [Nat.ble_eq]; omega
  rw [if_pos (by simp [nbf.2 he, rowsB]), if_neg (by simp [hb, h3, h4, nbf.2 hm]), if_neg (by rw [Nat.blt_eq]; omega), if_neg (by simp [h5]), if_pos (by rw [h6, h5]; simp [elemB])]
  rw [putL_mid _ _ _ hl, frozA_nil]
  rfl
end
end Go.Itp
/-
  Regions that draw their order and write in it, upon values without addresses: loads, stores of numbers and the like, and whatever reads no memory.
-/
namespace Go.Itp
set_option linter.unusedVariables false
set_option linter.constructorNameAsVariable false
/-- which objects an operation sees, writes, makes -/
structure VRc where
  v : List Nat
  w : List Nat
  n : List Nat
def VRc.ok (p q : VRc) : Bool := disL p.w q.v && disL q.w p.v && disL p.n q.v
def okAllV (rs : List VRc) (q : VRc) : List Nat → Bool
  | [] => true
  | k :: r => (match lget rs k with | some p => p.ok q | none => false) && okAllV rs q r
def noHeap : AOp → Bool
  | .mov _ => true
  | .pick _ _ _ => true
  | .alloc _ _ => true
  | .box _ _ => true
  | .build _ _ => true
  | .mkRow _ _ _ _ _ => true
  | .nilChk _ => true
  | .bin _ _ _ => true
  | .eqB _ _ _ => true
  | .eqNil _ _ _ _ => true
  | .un _ _ => true
  | .convI _ _ => true
  | .convS _ => true
  | .mkSlice _ _ _ _ _ _ => true
  | .slcS _ _ _ => true
  | .slc _ _ _ _ _ => true
  | .slcA _ _ _ _ _ => true
  | .fldA _ _ => true
  | .fldV _ _ _ => true
  | .idxS _ _ _ => true
  | .idxA _ _ _ _ => true
  | .idxStr _ _ => true
  | .idxV _ _ _ _ _ => true
  | .ext _ _ => true
  | .mkFn _ _ _ => true
  | .mkIf _ _ => true
  | .len _ _ => true
  | .mm _ _ _ => true
  | .eqIf _ _ _ _ _ => true
  | _ => false
def vobj : V → List Nat
  | .ptr o _ => [o]
  | _ => []
def dLoad (old : Nat → Nat → Option Value) (st : VSt) (k : Option Nat) (u : Option V) : Option (V × VSt × VRc) := u.bind fun u => (vload old st.own k u).map fun v => (v, st, ⟨vobj u, [], []⟩)
def dStOb (st : VSt) (o k : Nat) (y : Value) : Option Obj → Option (V × VSt × VRc)
  | some (.row t e g false l) => if Nat.ble st.ro o && Nat.blt k l.length then some (.tup [], ⟨aset st.own o (.row t e g false (l.set k (.sc y))), st.next, st.ro⟩, ⟨[o], [o], []⟩) else none
  | some (.box t e l) => if Nat.ble st.ro o && Nat.blt k l.length then some (.tup [], ⟨aset st.own o (.box t e (l.set k (.sc y))), st.next, st.ro⟩, ⟨[o], [o], []⟩) else none
  | some (.gro t e false l) => if Nat.ble st.ro o && Nat.blt k l.length then some (.tup [], ⟨aset st.own o (.gro t e false (l.set k (.sc y))), st.next, st.ro⟩, ⟨[o], [o], []⟩) else none
  | _ => none
def dStore (st : VSt) : Option V → Option V → Option (V × VSt × VRc)
  | some (.ptr o k), some (.sc y) => dStOb st o k y (aget st.own o)
  | _, _ => none
def dPure (st : VSt) : VO → Option (V × VSt × VRc)
  | some (v, none, []) => some (v, st, ⟨[], [], []⟩)
  | some (v, some ob, []) => some (v, ⟨(st.next, ob) :: st.own, st.next + 1, st.ro⟩, ⟨[], [], [st.next]⟩)
  | _ => none
def vdstep (old : Nat → Nat → Option Value) (f : VFr) (st : VSt) (o : AOp) (hint : Option (List Nat)) : Option (V × VSt × VRc) :=
  match o with
  | .load k a => dLoad old st k (vev f a)
  | .store n a x => if Nat.beq n 1 then dStore st (vev f a) (vev f x) else none
  | o => if hint.isNone && noHeap o then dPure st (vpstep old f st.own st.next o) else none
def wpD (C : Ctx) : List WOp → List VRc → VFr → VSt → (VFr → VSt → Prop) → Prop
  | [], _, fr, st, Q => Q fr st
  | x :: l, rs, fr, st, Q => match x.o.guard with
      | none => (match vdstep C.E.old (akeep (readsA x.o) fr) st x.o.op x.hint with | some (v, st', r) => okAllV rs r x.conc = true ∧ wpD C l (rs ++ [r]) (aputO fr x.o.dst v) st' Q | none => False)
      | some (t, want) => match aget fr t with
          | some (.sc (.bool b)) => if b == want then (match vdstep C.E.old (akeep (readsA x.o) fr) st x.o.op x.hint with | some (v, st', r) => okAllV rs r x.conc = true ∧ wpD C l (rs ++ [r]) (aputO fr x.o.dst v) st' Q | none => False) else wpD C l (rs ++ [⟨[], [], []⟩]) (aputO fr x.o.dst (.tup [])) st Q
          | some (.tup _) => wpD C l (rs ++ [⟨[], [], []⟩]) (aputO fr x.o.dst (.tup [])) st Q
          | _ => False
/-! ### soundness -/
theorem noHeap_eq {E : Env} {f : Fr} {h : Heap} {n p : Nat} {o : AOp} (ho : noHeap o = true) : pstep E f ⟨[], n, n⟩ o = pstep E f ⟨h, n, p⟩ o := by
  cases o <;> first | rfl | cases ho
/-- an operation's record in blocks and in objects -/
def VRel (μ : Nat → Option Nat) (F : Nat → Prop) (r : WRec) (q : VRc) : Prop :=
  ∃ lv lw ln, r = ⟨.only lv, .only lw, .fix ln⟩ ∧ (∀ b ∈ lv, F b ∨ ∃ o ∈ q.v, μ o = some b) ∧ (∀ b ∈ lw, ¬ F b ∧ ∃ o ∈ q.w, μ o = some b) ∧ (∀ b ∈ ln, ¬ F b ∧ ∃ o ∈ q.n, μ o = some b)
theorem VRel.ok {μ : Nat → Option Nat} {F : Nat → Prop} (hinj : ∀ o o' b, μ o = some b → μ o' = some b → o = o') {r r' : WRec} {q q' : VRc} (h : VRel μ F r q) (h' : VRel μ F r' q') (k : q.ok q' = true) : r.ok r' = true := by
  obtain ⟨lv, lw, ln, rfl, a1, a2, a3⟩ := h
  obtain ⟨lv', lw', ln', rfl, b1, b2, b3⟩ := h'
  simp only [VRc.ok, Bool.and_eq_true, disL_iff] at k
  obtain ⟨⟨k1, k2⟩, k3⟩ := k
  rw [ok_eq, dis_oo, dis_oo, out_fo]
  simp only [Bool.and_eq_true, disL_iff]
  have key : ∀ {l l' : List Nat} {w v : List Nat}, (∀ b ∈ l, ¬ F b ∧ ∃ o ∈ w, μ o = some b) → (∀ b ∈ l', F b ∨ ∃ o ∈ v, μ o = some b) → (∀ x ∈ w, x ∉ v) → ∀ x ∈ l, x ∉ l' := by
    intro l l' w v h1 h2 h3 x hx hx'
    obtain ⟨n1, o, ho, e⟩ := h1 x hx
    rcases h2 x hx' with hF | ⟨o', ho', e'⟩
    · exact n1 hF
    · have := hinj o o' x e e'
      subst this
      exact h3 o ho ho'
  exact ⟨⟨key a2 b1 k1, key b2 a1 k2⟩, key a3 b1 k3⟩
inductive VRels (μ : Nat → Option Nat) (F : Nat → Prop) : List WRec → List VRc → Prop
  | nil : VRels μ F [] []
  | cons {r q rs qs} : VRel μ F r q → VRels μ F rs qs → VRels μ F (r :: rs) (q :: qs)
theorem VRels.snoc {μ : Nat → Option Nat} {F : Nat → Prop} {r : WRec} {q : VRc} (h : VRel μ F r q) : ∀ {rs : List WRec} {qs : List VRc}, VRels μ F rs qs → VRels μ F (rs ++ [r]) (qs ++ [q])
  | _, _, .nil => .cons h .nil
  | _, _, .cons a b => .cons a (VRels.snoc h b)
theorem VRels.get {μ : Nat → Option Nat} {F : Nat → Prop} : ∀ {rs : List WRec} {qs : List VRc}, VRels μ F rs qs → ∀ {k : Nat} {q : VRc}, lget qs k = some q → ∃ r, lget rs k = some r ∧ VRel μ F r q
  | _, _, .nil, k, q, e => by cases k <;> cases e
  | _, _, .cons a b, 0, q, e => by cases e; exact ⟨_, rfl, a⟩
  | _, _, .cons a b, k + 1, q, e => VRels.get b e
theorem VRels.mono {μ μ' : Nat → Option Nat} {F : Nat → Prop} (h : ∀ o b, μ o = some b → μ' o = some b) : ∀ {rs : List WRec} {qs : List VRc}, VRels μ F rs qs → VRels μ' F rs qs
  | _, _, .nil => .nil
  | _, _, .cons ⟨lv, lw, ln, e, a1, a2, a3⟩ b => .cons ⟨lv, lw, ln, e, fun b hb => (a1 b hb).imp id fun ⟨o, x, y⟩ => ⟨o, x, h _ _ y⟩, fun b hb => ⟨(a2 b hb).1, let ⟨o, x, y⟩ := (a2 b hb).2; ⟨o, x, h _ _ y⟩⟩, fun b hb => ⟨(a3 b hb).1, let ⟨o, x, y⟩ := (a3 b hb).2; ⟨o, x, h _ _ y⟩⟩⟩ (VRels.mono h b)
theorem VRels.all {μ : Nat → Option Nat} {F : Nat → Prop} (hinj : ∀ o o' b, μ o = some b → μ o' = some b → o = o') {rs : List WRec} {qs : List VRc} (h : VRels μ F rs qs) {r : WRec} {q : VRc} (hr : VRel μ F r q) : ∀ {l : List Nat}, okAllV qs q l = true → okAll rs r l = true
  | [], _ => rfl
  | k :: l, e => by
    simp only [okAllV, Bool.and_eq_true] at e
    obtain ⟨e1, e2⟩ := e
    split at e1
    case h_2 => cases e1
    rename_i p hp
    obtain ⟨r', a, b⟩ := h.get hp
    simp only [okAll, Bool.and_eq_true, a]
    exact ⟨VRel.ok hinj b hr e1, VRels.all hinj h hr e2⟩
section
variable {C : Ctx}
/-- one operation -/
theorem vdstep_ok {st st' : VSt} {s : St} {μ : Nat → Option Nat} {F : Nat → Prop} {f : VFr} {fI fr0 : Fr} {o : AOp} {hint : Option (List Nat)} {v : V} {q : VRc} {conc : List Nat} {rs : List WRec}
    (hsr : SR C st s μ F) (hf : FR (wof C st s μ F) f fI) (h : vdstep C.E.old f st o hint = some (v, st', q)) :
    ∃ vI h' n' r μ', stepW C.E fr0 s.prot ⟨⟨none, none, o⟩, conc, hint⟩ rs fI s.heap s.next = some (vI, h', n', r) ∧ SR C st' ⟨h', n', s.prot⟩ μ' F ∧ VRep (wof C st' ⟨h', n', s.prot⟩ μ' F) v vI ∧ VW.le (wof C st s μ F) (wof C st' ⟨h', n', s.prot⟩ μ' F) ∧
      VRel μ' F r q ∧ (∀ o b, μ o = some b → μ' o = some b) := by
  unfold vdstep at h
  split at h
  · rename_i k a
    simp only [dLoad, Option.bind_eq_some_iff, Option.map_eq_some_iff, Prod.mk.injEq] at h
    obtain ⟨u, hu, v', hv, rfl, rfl, rfl⟩ := h
    obtain ⟨uI, a1, a2⟩ := vev_ok hf hu
    obtain ⟨vI, b1, b2⟩ := vload_ok hsr.hr a2 hv
    split at b1
    case h_2 => cases b1
    rename_i ad
    have hkeep : loadG C.E (keepL (ownBlk (.pointer (some ad))) s.heap) ad k = loadG C.E s.heap ad k := by
      obtain ⟨i, j, sp⟩ := ad
      cases sp with
      | none => cases k <;> rfl
      | some sp =>
        have e : hget (keepL [i] s.heap) i = hget s.heap i := by rw [hget_keepL]; simp [elemB]
        cases k <;> simp only [ownBlk, loadG, aload, aloadN, e]
    refine ⟨vI, s.heap, s.next, ⟨.only (ownBlk (.pointer (some ad))), .only [], .fix []⟩, μ, ?_, hsr, b2, VW.le.refl _, ⟨_, [], [], rfl, fun b hb => ?_, fun b hb => (by cases hb), fun b hb => (by cases hb)⟩, fun _ _ e => e⟩
    · simp only [stepW, a1, Option.bind_some, pstep, hkeep, b1, pureW, Option.map_some, hpush, numb, List.length_nil, Nat.add_zero]
    · obtain ⟨i, j, sp⟩ := ad
      cases sp with
      | none => simp [ownBlk] at hb
      | some sp =>
        simp only [ownBlk, List.mem_singleton] at hb
        subst hb
        cases u with
        | ptr o j' =>
          refine .inr ⟨o, by simp [vobj], ?_⟩
          simp only [VRep] at a2
          obtain ⟨_, b', e, q⟩ := a2
          cases e
          have hob : ∃ ob, aget st.own o = some ob ∧ ob.none = false := by
            simp only [vload] at hv
            split at hv
            · rename_i he; exact ⟨_, he, rfl⟩
            · rename_i he; exact ⟨_, he, rfl⟩
            · rename_i t e z l he
              refine ⟨_, he, ?_⟩
              cases l with
              | nil =>
                exfalso
                cases k with
                | none => simp [dload, lget] at hv
                | some n => cases n <;> simp [dload, ltake] at hv
              | cons => rfl
            · cases hv
          obtain ⟨ob, he, hn⟩ := hob
          obtain ⟨b, blk, m1, m2, _⟩ := hsr.obj o ob he hn
          rw [m1, q b m1]
        | dp l o =>
          simp only [VRep] at a2
          obtain ⟨a', e, hi, _⟩ := a2
          obtain ⟨ab, ao, asp⟩ := a'
          simp only [aadd, Value.pointer.injEq, Option.some.injEq, Addr.mk.injEq] at e
          obtain ⟨rfl, _, rfl⟩ := e
          exact .inl hi
        | sc x =>
          have hx := a2.ok
          have := a2.scv
          subst this
          simp [scOK] at hx
        | _ => simp [vload] at hv
  · rename_i n a x
    split at h
    case isFalse => cases h
    rename_i hn1
    have hn1 := nbeq.1 hn1
    subst hn1
    unfold dStore at h
    split at h
    case h_2 => cases h
    rename_i _ _ i k y ha hx
    obtain ⟨aI, a1, a2⟩ := vev_ok hf ha
    obtain ⟨xI, x1, x2⟩ := vev_ok hf hx
    have hy := x2.ok
    rw [x2.scv] at x1
    simp only [VRep] at a2
    obtain ⟨_, b', rfl, qq⟩ := a2
    have hone : y.cells.toList = [y] := by cases y <;> first | rfl | (simp [scOK] at hy)
    have fin : ∀ {ob ob' : Obj} {blk : Blk} {b : Nat} {cs : List Value}, aget st.own i = some ob → ob.fz = false → μ i = some b → hget s.heap b = some blk → st.ro ≤ i → ob'.none = false → ob'.fz = false → ob'.ok = true → lput blk.cells k [y] = some cs →
        (∀ w', VW.le (wof C st s μ F) w' → ORep w' ob' { blk with cells := cs }) → v = .tup [] → st' = ⟨aset st.own i ob', st.next, st.ro⟩ → q = ⟨[i], [i], []⟩ →
        ∃ vI h' n' r μ', stepW C.E fr0 s.prot ⟨⟨none, none, .store 1 a x⟩, conc, hint⟩ rs fI s.heap s.next = some (vI, h', n', r) ∧ SR C st' ⟨h', n', s.prot⟩ μ' F ∧ VRep (wof C st' ⟨h', n', s.prot⟩ μ' F) v vI ∧ VW.le (wof C st s μ F) (wof C st' ⟨h', n', s.prot⟩ μ' F) ∧ VRel μ' F r q ∧ (∀ o b, μ o = some b → μ' o = some b) := by
      intro ob ob' blk b cs e1 e2 e3 e4 e5 e6 e7 e8 e9 e10 r1 r2 r3
      subst r1 r2 r3
      have := qq b e3
      subst this
      obtain ⟨g1, g2, g3⟩ := hsr.upd (fz := []) e1 e2 e5 e3 e4 rfl (by simp) e6 e7 e8 (fun w' k1 _ _ => e10 w' k1)
      rw [finF_nil, frozA_nil] at g1 g2
      refine ⟨.tuple #[], hset s.heap b' { blk with cells := cs }, s.next, ⟨.only [b'], .only [b'], .fix []⟩, μ, ?_, g1, by simp only [VRep, VRepL]; exact ⟨[], rfl, rfl⟩, g2, ⟨[b'], [b'], [], rfl, fun b hb => .inr ⟨i, by simp, by simp at hb; rw [hb]; exact e3⟩, fun b hb => ⟨by simp at hb; rw [hb]; exact (hsr.wr i ob b' e1 e3 e2).1, i, by simp, by simp at hb; rw [hb]; exact e3⟩, fun b hb => (by cases hb)⟩, fun _ _ e => e⟩
      have e : hget (keepL [b'] s.heap) b' = some blk := by rw [hget_keepL]; simp [elemB, e4]
      have hall : [y].all oneCell = true := by simp [scOK_one y hy]
      have hast := astore_ok (s := ⟨keepL [b'] s.heap, s.next, s.prot⟩) (k := k) e g3 hall e9 0
      simp only [stepW, storeW, a1, Option.bind_some, ownBlk, wstep, x1, hone, List.length_singleton, hast, Option.map_some]
      rw [if_pos (show Nat.beq 1 1 = true from rfl)]
      simp only [Option.bind_some]
      rw [if_pos (nbeq.2 rfl), hget_set_self, e]
      rfl
    have hput : ∀ {α : Type} (l : List α) (x : α), k < l.length → putL l k [x] = some (l.set k x) := fun l x hk => putL_one _ _ _ hk
    unfold dStOb at h
    split at h
    · rename_i t e g l ho
      split at h
      case isFalse => cases h
      rename_i hc
      simp only [Bool.and_eq_true, Nat.ble_eq, Nat.blt_eq] at hc
      cases h
      obtain ⟨b, blk, m1, m2, m3⟩ := hsr.obj i _ ho rfl
      obtain ⟨rs', r1, r2⟩ := putD_ok (hput l (D.sc y) hc.2) m3.2.2.2 (show DRepL (wof C st s μ F) [D.sc y] [y] by simp only [DRepL, DRep]; exact ⟨y, [], rfl, ⟨rfl, hy⟩, rfl⟩)
      refine fin (ob' := .row t e g false (l.set k (.sc y))) ho rfl m1 m2 hc.1 rfl rfl ?_ r1 (fun w' k1 => ⟨m3.1, m3.2.1, m3.2.2.1, r2.mono k1⟩) rfl rfl rfl
      exact putL_okL (hput l (D.sc y) hc.2) (hsr.own i _ ho).2 rfl
    · rename_i t e l ho
      split at h
      case isFalse => cases h
      rename_i hc
      simp only [Bool.and_eq_true, Nat.ble_eq, Nat.blt_eq] at hc
      cases h
      obtain ⟨b, blk, m1, m2, m3⟩ := hsr.obj i _ ho rfl
      obtain ⟨rs', r1, r2⟩ := putL_ok (hput l (V.sc y) hc.2) m3.2.2.2 (show VRepL (wof C st s μ F) [V.sc y] [y] by simp only [VRepL, VRep]; exact ⟨y, [], rfl, ⟨rfl, hy⟩, rfl⟩)
      exact fin (ob' := .box t e (l.set k (.sc y))) ho rfl m1 m2 hc.1 rfl rfl rfl r1 (fun w' k1 => ⟨m3.1, m3.2.1, m3.2.2.1, r2.mono k1⟩) rfl rfl rfl
    · rename_i t e l ho
      split at h
      case isFalse => cases h
      rename_i hc
      simp only [Bool.and_eq_true, Nat.ble_eq, Nat.blt_eq] at hc
      cases h
      have hln : (Obj.gro t e false l).none = false := by cases l with | nil => simp at hc | cons => rfl
      obtain ⟨b, blk, m1, m2, m3⟩ := hsr.obj i _ ho hln
      obtain ⟨rs', r1, r2⟩ := putD_ok (hput l (D.sc y) hc.2) m3.2.2.2 (show DRepL (wof C st s μ F) [D.sc y] [y] by simp only [DRepL, DRep]; exact ⟨y, [], rfl, ⟨rfl, hy⟩, rfl⟩)
      refine fin (ob' := .gro t e false (l.set k (.sc y))) ho rfl m1 m2 hc.1 ?_ rfl ?_ r1 (fun w' k1 => ⟨m3.1, m3.2.1, m3.2.2.1, r2.mono k1⟩) rfl rfl rfl
      · cases h1 : l.set k (D.sc y) with
        | nil => have := congrArg List.length h1; simp at this; subst this; simp at hc
        | cons => rfl
      · exact putL_okL (hput l (D.sc y) hc.2) (hsr.own i _ ho).2 rfl
    · cases h
  · rename_i hnl hns
    split at h
    case isFalse => cases h
    rename_i hc
    rw [Bool.and_eq_true] at hc
    obtain ⟨hc1, hc2⟩ := hc
    have hh : hint = none := by cases hint with | none => rfl | some _ => cases hc1
    subst hh
    have hls : isLS o = false := by cases o <;> first | rfl | cases hc2
    have hst : stepW C.E fr0 s.prot ⟨⟨none, none, o⟩, conc, none⟩ rs fI s.heap s.next = pureW (.only []) s.heap s.next (pstep C.E fI ⟨s.heap, s.next, s.next⟩ o) := by
      rw [← noHeap_eq (h := s.heap) hc2]
      cases o <;> first | rfl | cases hls
    rw [hst]
    have go : ∀ {v2 : V} {ob : Option Obj}, vpstep C.E.old f st.own st.next o = some (v2, ob, []) → ∃ vI bs, pstep C.E fI ⟨s.heap, s.next, s.next⟩ o = some (vI, bs) ∧ POut s.heap (wof C st s μ F) s.next v2 ob [] vI bs := fun e => vpstep_ok (n := s.next) (p := s.next) hsr.hr hf e
    unfold dPure at h
    split at h
    · rename_i v2 e
      simp only [Option.some.injEq, Prod.mk.injEq] at h
      obtain ⟨rfl, rfl, rfl⟩ := h
      obtain ⟨vI, bs, e1, e2⟩ := go e
      obtain ⟨rfl, _, e4⟩ := e2
      exact ⟨vI, s.heap, s.next, ⟨.only [], .only [], .fix []⟩, μ, by simp [e1, pureW, hpush, numb], hsr, e4, VW.le.refl _, ⟨[], [], [], rfl, fun b hb => (by cases hb), fun b hb => (by cases hb), fun b hb => (by cases hb)⟩, fun _ _ e => e⟩
    · rename_i v2 ob e
      simp only [Option.some.injEq, Prod.mk.injEq] at h
      obtain ⟨rfl, rfl, rfl⟩ := h
      obtain ⟨vI, bs, e1, e2⟩ := go e
      obtain ⟨q1, q2, q3, q4⟩ := hsr.push e2 rfl
      rw [finF_nil] at q1 q2 q3
      obtain ⟨_, _, _, blk, rfl, _⟩ := e2
      have hp : st.push (some ob) [] = ⟨(st.next, ob) :: st.own, st.next + 1, st.ro⟩ := by simp [VSt.push, frozA_nil]
      rw [hp] at q1 q2 q3
      refine ⟨vI, hpush s.heap s.next [blk], s.next + 1, ⟨.only [], .only [], .fix [s.next]⟩, _, by simp [e1, pureW, numb], q1, q2, q3, ⟨[], [], [s.next], rfl, fun b hb => (by cases hb), fun b hb => (by cases hb), fun b hb => ?_⟩, fun o' b e' => ?_⟩
      · simp only [List.mem_singleton] at hb
        subst hb
        exact ⟨fun hF => Nat.lt_irrefl _ (hsr.lt _ hF).1, st.next, by simp, by simp [muP]⟩
      · have := (hsr.dom o' b e').2.1
        simp only [muP]
        rw [if_neg (by omega)]
        exact e'
    · cases h
theorem wpD_ok (fr0 : Fr) (p0 : Nat) {F : Nat → Prop} : ∀ (l : List WOp) {qs : List VRc} {rs : List WRec} {fr : VFr} {st : VSt} {Q : VFr → VSt → Prop} {μ : Nat → Option Nat} {frI : Fr} {h : Heap} {n : Nat}, wpD C l qs fr st Q →
    SR C st ⟨h, n, p0⟩ μ F → FR (wof C st ⟨h, n, p0⟩ μ F) fr frI → VW.le C.w0 (wof C st ⟨h, n, p0⟩ μ F) → p0 = C.p0 → (∀ b, F b → C.w0.F b ∨ C.p0 ≤ b) → VRels μ F rs qs →
    ∃ frI' h' n' fr' st', runW C.E fr0 p0 l rs frI h n = some (frI', h', n') ∧ Rl C st' fr' ⟨h', n', p0⟩ frI' ∧ Q fr' st'
  | [], qs, rs, fr, st, Q, μ, frI, h, n, hw, h1, h2, h3, h4, h5, h6 => ⟨frI, h, n, fr, st, rfl, ⟨μ, F, h1, h2, h3, h4, h5⟩, hw⟩
  | ⟨⟨d, g, op⟩, conc, hint⟩ :: l, qs, rs, fr, st, Q, μ, frI, h, n, hw, h1, h2, h3, h4, h5, h6 => by
    have hrl : Rl C st fr ⟨h, n, p0⟩ frI := ⟨μ, F, h1, h2, h3, h4, h5⟩
    have run : (match vdstep C.E.old (akeep (readsA ⟨d, g, op⟩) fr) st op hint with | some (v, st', r) => okAllV qs r conc = true ∧ wpD C l (qs ++ [r]) (aputO fr d v) st' Q | none => False) → wanted (fkeep (readsA ⟨d, g, op⟩) frI) g = some true →
        ∃ frI' h' n' fr' st', runW C.E fr0 p0 (⟨⟨d, g, op⟩, conc, hint⟩ :: l) rs frI h n = some (frI', h', n') ∧ Rl C st' fr' ⟨h', n', p0⟩ frI' ∧ Q fr' st' := by
      intro hq hwt
      split at hq
      case h_2 => exact hq.elim
      rename_i v st' r hs
      obtain ⟨hq1, hq2⟩ := hq
      obtain ⟨vI, h', n', r', μ', e1, q1, q2, q3, q4, q5⟩ := vdstep_ok (fr0 := fr0) (conc := conc) (rs := rs) h1 (h2.keep (readsA ⟨d, g, op⟩)) hs
      have h6' := VRels.mono (F := F) q5 h6
      have hok := VRels.all q1.inj h6' q4 hq1
      obtain ⟨frI', h'', n'', fr', st'', k1, k2, k3⟩ := wpD_ok fr0 p0 l (rs := rs ++ [r']) (frI := fputO frI d vI) hq2 q1 ((h2.mono q3).put q2 d) (h3.trans q3) h4 h5 (VRels.snoc q4 h6')
      refine ⟨frI', h'', n'', fr', st'', ?_, k2, k3⟩
      simp only [runW, hwt, Option.bind_some]
      rw [stepW_irr, e1]
      simp only [Option.bind_some]
      rw [if_pos hok]
      exact k1
    have skip : wpD C l (qs ++ [⟨[], [], []⟩]) (aputO fr d (.tup [])) st Q → wanted (fkeep (readsA ⟨d, g, op⟩) frI) g = some false →
        ∃ frI' h' n' fr' st', runW C.E fr0 p0 (⟨⟨d, g, op⟩, conc, hint⟩ :: l) rs frI h n = some (frI', h', n') ∧ Rl C st' fr' ⟨h', n', p0⟩ frI' ∧ Q fr' st' := by
      intro hq hwt
      obtain ⟨frI', h'', n'', fr', st'', k1, k2, k3⟩ := wpD_ok fr0 p0 l (rs := rs ++ [⟨.only [], .only [], .fix []⟩]) (frI := fputO frI d (.tuple #[])) hq h1 (h2.put (by simp only [VRep, VRepL]; exact ⟨[], rfl, rfl⟩) d) h3 h4 h5 (VRels.snoc ⟨[], [], [], rfl, fun b hb => (by cases hb), fun b hb => (by cases hb), fun b hb => (by cases hb)⟩ h6)
      refine ⟨frI', h'', n'', fr', st'', ?_, k2, k3⟩
      simp only [runW, hwt, Option.bind_some]
      exact k1
    simp only [wpD] at hw
    split at hw
    · exact run hw rfl
    · rename_i _ t want
      have ht : t ∈ readsA ⟨d, some (t, want), op⟩ := by simp [readsA]
      split at hw
      · rename_i b hb
        have hb' := (guard_ok hrl hb).1 b rfl
        split at hw
        · rename_i hbw
          exact run hw (by simp only [wanted]; rw [fget_fkeepV _ _ _ ht, hb']; simp [hbw])
        · rename_i hbw
          have hbw' : (b == want) = false := by simpa using hbw
          exact skip hw (by simp only [wanted]; rw [fget_fkeepV _ _ _ ht, hb']; simp [hbw'])
      · rename_i l' hb
        obtain ⟨l2, hb'⟩ := (guard_ok hrl hb).2 l' rfl
        exact skip hw (by simp only [wanted]; rw [fget_fkeepV _ _ _ ht, hb']; rfl)
      · exact hw.elim
/-! ### the walk -/
def gD (C : Ctx) (l : List WOp) (rs : List VRc) (tail : List AOper) (ks : List Nat) (K : List KF) (fr : VFr) (st : VSt) (P : VPost) : Prop := wpD C l rs fr st fun fr st => gO C tail ks K fr st P
def gDV (C : Ctx) (r : Option (V × VSt × VRc)) (conc : List Nat) (d : Option Nat) (l : List WOp) (rs : List VRc) (tail : List AOper) (ks : List Nat) (K : List KF) (fr : VFr) (P : VPost) : Prop :=
  match r with | some (v, st', r) => okAllV rs r conc = true ∧ gD C l (rs ++ [r]) tail ks K (aputO fr d v) st' P | none => False
def gDG (C : Ctx) (v : Option V) (want : Bool) (r : Option (V × VSt × VRc)) (conc : List Nat) (d : Option Nat) (l : List WOp) (rs : List VRc) (tail : List AOper) (ks : List Nat) (K : List KF) (fr : VFr) (st : VSt) (P : VPost) : Prop :=
  match v with
  | some (.sc (.bool b)) => if b == want then gDV C r conc d l rs tail ks K fr P else gD C l (rs ++ [⟨[], [], []⟩]) tail ks K (aputO fr d (.tup [])) st P
  | some (.tup _) => gD C l (rs ++ [⟨[], [], []⟩]) tail ks K (aputO fr d (.tup [])) st P
  | _ => False
variable {K : List KF} {fr : VFr} {st : VSt} {P : VPost}
theorem gC_drawW {pre : List WOp} {tail : List AOper} {ks : List Nat} (h : gD C pre [] tail ks K fr st P) : gC C (.drawW pre tail ks) K fr st P := by
  unfold gC
  simp only [wpC]
  rintro frI s ⟨μ, F, h1, h2, h3, h4, h5⟩
  obtain ⟨frI', h', n', fr', st', e, g1, g2⟩ := wpD_ok frI s.prot pre (rs := []) h h1 h2 h3 h4 h5 .nil
  unfold gO at g2
  obtain ⟨frI2, s2, fr2, st2, e2, k1, k2⟩ := wpO_ok tail g2 g1
  refine ⟨.normal, fkeep ks frI2, s2, ?_, akeep ks fr2, st2, k1.keep ks, k2⟩
  simp only [exec, e, Option.bind_some]
  rw [e2]
  rfl
theorem gD_nil (rs : List VRc) (tail : List AOper) (ks : List Nat) : gD C [] rs tail ks K fr st P = gO C tail ks K fr st P := (rfl)
theorem gD_cons (d : Option Nat) (o : AOp) (conc : List Nat) (hint : Option (List Nat)) (l : List WOp) (rs : List VRc) (tail : List AOper) (ks : List Nat) : gD C (⟨⟨d, none, o⟩, conc, hint⟩ :: l) rs tail ks K fr st P = gDV C (vdstep C.E.old (akeep (slotsL (opdsA o)) fr) st o hint) conc d l rs tail ks K fr P := by
  unfold gD gDV
  simp only [wpD, readsA_none]
  rfl
theorem gD_guard (d : Option Nat) (t : Nat) (want : Bool) (o : AOp) (conc : List Nat) (hint : Option (List Nat)) (l : List WOp) (rs : List VRc) (tail : List AOper) (ks : List Nat) :
    gD C (⟨⟨d, some (t, want), o⟩, conc, hint⟩ :: l) rs tail ks K fr st P = gDG C (aget fr t) want (vdstep C.E.old (akeep (slotsL (opdsA o) ++ [t]) fr) st o hint) conc d l rs tail ks K fr st P := by
  unfold gD gDG gDV
  simp only [wpD, readsA]
  rfl
theorem gDV_some (v : V) (st' : VSt) (r : VRc) (conc : List Nat) (d : Option Nat) (l : List WOp) (rs : List VRc) (tail : List AOper) (ks : List Nat) (h : okAllV rs r conc = true) : gDV C (some (v, st', r)) conc d l rs tail ks K fr P = gD C l (rs ++ [r]) tail ks K (aputO fr d v) st' P := by
  simp only [gDV, h, true_and]
theorem gDG_yes (b : Bool) (r : Option (V × VSt × VRc)) (conc : List Nat) (d : Option Nat) (l : List WOp) (rs : List VRc) (tail : List AOper) (ks : List Nat) : gDG C (some (.sc (.bool b))) b r conc d l rs tail ks K fr st P = gDV C r conc d l rs tail ks K fr P := by simp [gDG]
theorem gDG_tf (r : Option (V × VSt × VRc)) (conc : List Nat) (d : Option Nat) (l : List WOp) (rs : List VRc) (tail : List AOper) (ks : List Nat) : gDG C (some (.sc (.bool true))) false r conc d l rs tail ks K fr st P = gD C l (rs ++ [⟨[], [], []⟩]) tail ks K (aputO fr d (.tup [])) st P := (rfl)
theorem gDG_ft (r : Option (V × VSt × VRc)) (conc : List Nat) (d : Option Nat) (l : List WOp) (rs : List VRc) (tail : List AOper) (ks : List Nat) : gDG C (some (.sc (.bool false))) true r conc d l rs tail ks K fr st P = gD C l (rs ++ [⟨[], [], []⟩]) tail ks K (aputO fr d (.tup [])) st P := (rfl)
theorem gDG_tup (a : List V) (want : Bool) (r : Option (V × VSt × VRc)) (conc : List Nat) (d : Option Nat) (l : List WOp) (rs : List VRc) (tail : List AOper) (ks : List Nat) : gDG C (some (.tup a)) want r conc d l rs tail ks K fr st P = gD C l (rs ++ [⟨[], [], []⟩]) tail ks K (aputO fr d (.tup [])) st P := (rfl)
end
section
variable {old : Nat → Nat → Option Value} {f : VFr} {st : VSt}
theorem vd_load (k : Option Nat) (a : Operand) (h : Option (List Nat)) : vdstep old f st (.load k a) h = dLoad old st k (vev f a) := (rfl)
theorem vd_store (a x : Operand) (h : Option (List Nat)) : vdstep old f st (.store 1 a x) h = dStore st (vev f a) (vev f x) := (rfl)
theorem vd_pure (o : AOp) (ho : noHeap o = true) : vdstep old f st o none = dPure st (vpstep old f st.own st.next o) := by
  cases o <;> first | rfl | cases ho
/-- what is loaded, and from which object -/
def dLd (st : VSt) (v : Option V) (l : List Nat) : Option (V × VSt × VRc) := v.map fun v => (v, st, ⟨l, [], []⟩)
theorem dLd_some (v : V) (l : List Nat) : dLd st (some v) l = some (v, st, ⟨l, [], []⟩) := (rfl)
theorem dLoad_ptr (k : Option Nat) (o j : Nat) : dLoad old st k (some (.ptr o j)) = dLd st (vloadO old st.own k (some (.ptr o j))) [o] := (rfl)
theorem dLoad_dp (k : Option Nat) (l : List D) (j : Nat) : dLoad old st k (some (.dp l j)) = dLd st (vloadO old st.own k (some (.dp l j))) [] := (rfl)
theorem dLoad_sc (k : Option Nat) (x : Value) : dLoad old st k (some (.sc x)) = dLd st (vloadO old st.own k (some (.sc x))) [] := (rfl)
theorem dStore_eq (o k : Nat) (y : Value) : dStore st (some (.ptr o k)) (some (.sc y)) = dStOb st o k y (aget st.own o) := (rfl)
theorem dStOb_row (o k t e : Nat) (g : Bool) (l : List D) (y : Value) (hro : st.ro ≤ o) (hk : k < l.length) : dStOb st o k y (some (.row t e g false l)) = some (.tup [], ⟨aset st.own o (.row t e g false (l.set k (.sc y))), st.next, st.ro⟩, ⟨[o], [o], []⟩) := by
  simp only [dStOb]
  rw [if_pos (by simp only [Bool.and_eq_true, Nat.ble_eq, Nat.blt_eq]; exact ⟨hro, hk⟩)]
theorem dStOb_gro (o k t e : Nat) (l : List D) (y : Value) (hro : st.ro ≤ o) (hk : k < l.length) : dStOb st o k y (some (.gro t e false l)) = some (.tup [], ⟨aset st.own o (.gro t e false (l.set k (.sc y))), st.next, st.ro⟩, ⟨[o], [o], []⟩) := by
  simp only [dStOb]
  rw [if_pos (by simp only [Bool.and_eq_true, Nat.ble_eq, Nat.blt_eq]; exact ⟨hro, hk⟩)]
theorem dStOb_box (o k t e : Nat) (l : List V) (y : Value) (hro : st.ro ≤ o) (hk : k < l.length) : dStOb st o k y (some (.box t e l)) = some (.tup [], ⟨aset st.own o (.box t e (l.set k (.sc y))), st.next, st.ro⟩, ⟨[o], [o], []⟩) := by
  simp only [dStOb]
  rw [if_pos (by simp only [Bool.and_eq_true, Nat.ble_eq, Nat.blt_eq]; exact ⟨hro, hk⟩)]
theorem dPure_pure (v : V) : dPure st (some (v, none, [])) = some (v, st, ⟨[], [], []⟩) := (rfl)
theorem dPure_new (v : V) (ob : Obj) : dPure st (some (v, some ob, [])) = some (v, ⟨(st.next, ob) :: st.own, st.next + 1, st.ro⟩, ⟨[], [], [st.next]⟩) := (rfl)
theorem okAllV_nil (rs : List VRc) (q : VRc) : okAllV rs q [] = true := (rfl)
def okAtV (p : Option VRc) (q : VRc) : Bool := match p with | some p => p.ok q | none => false
theorem okAllV_cons (rs : List VRc) (q : VRc) (k : Nat) (r : List Nat) : okAllV rs q (k :: r) = (okAtV (lget rs k) q && okAllV rs q r) := (rfl)
theorem okAtV_some (p q : VRc) : okAtV (some p) q = p.ok q := (rfl)
theorem vrc_ok (v w n v' w' n' : List Nat) : VRc.ok ⟨v, w, n⟩ ⟨v', w', n'⟩ = (disL w v' && disL w' v && disL n v') := (rfl)
end
end Go.Itp
/-
  Functions that return one new slice of numbers and the like, called where the order is drawn; results that are nothing.
-/
namespace Go.Itp
set_option linter.unusedVariables false
set_option linter.constructorNameAsVariable false
theorem drepL_sc {w : VW} : ∀ {L : List D} {vs : List Value}, DRepL w L vs → (∀ d ∈ L, ∃ x, d = .sc x) → (∀ n, idsL n vs = []) ∧ (∀ f, renL f vs = vs) ∧ ∀ w', DRepL w' L vs
  | [], vs, h, _ => by simp only [DRepL] at h; subst h; exact ⟨fun _ => rfl, fun _ => rfl, fun w' => by simp only [DRepL]⟩
  | d :: r, vs, h, hs => by
    simp only [DRepL] at h
    obtain ⟨v, vs', rfl, h1, h2⟩ := h
    obtain ⟨a1, a2, a3⟩ := drepL_sc h2 fun d hd => hs d (List.mem_cons_of_mem _ hd)
    obtain ⟨x, rfl⟩ := hs d (List.mem_cons_self ..)
    simp only [DRep] at h1
    obtain ⟨rfl, hx⟩ := h1
    have hren : ∀ f, ren f v = v := fun f => ren_none (scOK_ids 0 v hx)
    exact ⟨fun n => by simp [idsL, scOK_ids n v hx, a1 n], fun f => by simp [renL, hren f, a2 f], fun w' => by simp only [DRepL]; exact ⟨v, vs', rfl, by simp only [DRep, hx, and_self], a3 w'⟩⟩
theorem gc_oneV {n0 b N c : Nat} {h : Heap} {blk : Blk} (hb : hget h b = some blk) (hn : n0 ≤ b) (hi : ∀ n, idsL n blk.cells = []) (hr : ∀ f, renL f blk.cells = blk.cells) :
    gc n0 h (.slice (some ⟨b, 0, some 0⟩) N c) = some (.slice (some ⟨n0, 0, some 0⟩) N c, [blk]) := by
  have hid : ids n0 (.slice (some ⟨b, 0, some 0⟩) N c) = [b] := by
    simp only [ids, addrIds]
    rw [if_pos (by rw [Nat.ble_eq]; exact hn)]
  have hre : reachA n0 h [b] = some [b] := by
    have : reach n0 h 1000000 [b] [] = some [b] := by
      rw [show (1000000 : Nat) = 999999 + 1 from rfl]
      simp only [reach, elemB, Bool.false_eq_true, if_false, hb, Option.bind_some, hi]
      rfl
    simp only [reachA, this]
  have hto : renTo n0 [b] b = n0 := by
    simp only [renTo, indexOf]
    rw [if_neg (by rw [Nat.blt_eq]; omega), if_pos (nbeq.2 rfl)]
    rfl
  unfold gc
  rw [hid]
  simp only [hre, Option.bind_some, List.reverse_singleton, pickUp, hb, Option.map_some, hr]
  simp only [ren, addrRen, hto]
section
variable {old : Nat → Nat → Option Value} {rounds : Nat} {fns : FuncId → Option AFun} {prims : FuncId → List Value → St → Option (Value × List Blk)} {n : Nat} {f : FuncId} {xs : List V} {af : AFun}
/-- a function that returns one new slice of numbers and the like, not empty -/
theorem vspec1_g {st0 : VSt} {t e N : Nat} {L : List D} (hf : fns f = some af) (hpu : af.pure = true) (hp : ∀ xs s, prims f xs s = none) (hlen : xs.length ≤ af.n) (hN : N ≠ 0) (hL : L ≠ []) (hsc : ∀ d ∈ L, ∃ x, d = .sc x)
    (h : ∀ C : Ctx, C.E = callP old rounds fns prims n → C.w0.nx = st0.next → ∃ st1 o, aget st1.own o = some (.gro t e false L) ∧ st1.ro ≤ o ∧ gC C af.code [] (vargs 0 xs) ⟨st0.own, st0.next, st0.next⟩ (RetV C af.res (.gr 2 o N) st1)) :
    VSpec1 (callP old rounds fns prims (n + 1)) f st0 xs (.gr 2 st0.next N) (.gro t e false L) := by
  have hok : okL L = true := by
    simp only [okL, List.all_eq_true]
    intro d hd
    obtain ⟨x, rfl⟩ := hsc d hd
    rfl
  have hln : (Obj.gro t e false L).none = false := by cases L with | nil => exact absurd rfl hL | cons => rfl
  refine ⟨hln, rfl, hok, ?_⟩
  intro s μ F xsI w0 hs hx
  let C : Ctx := ⟨callP old rounds fns prims n, s.next, s.heap, (· < s.next), ⟨aload (callP old rounds fns prims n) s.heap, F, μ, st0.next⟩, s.next⟩
  have hs' : SR C ⟨st0.own, st0.next, st0.next⟩ ⟨s.heap, s.next, s.next⟩ μ F := hs.env (aload_eq _ _) rfl rfl rfl
  obtain ⟨st1, o, ho, hro, h⟩ := h C rfl rfl
  have hx' : VRepL (wof C ⟨st0.own, st0.next, st0.next⟩ ⟨s.heap, s.next, s.next⟩ μ F) xs xsI := by
    show VRepL ⟨aload (callP old rounds fns prims n) s.heap, F, μ, st0.next⟩ xs xsI
    rw [aload_eq n (n + 1)]; exact hx
  obtain ⟨vI, sf, hbody, μ', G, g1, g2, g3, g4, g5⟩ := body_v (C := C) (s := ⟨s.heap, s.next, s.next⟩) hlen h ⟨_, F, hs', vargs_ok 0 hx', VW.le.refl _, rfl, fun b hb => .inl hb⟩ hx.length
  obtain ⟨b, blk, m1, m2, m3⟩ := g1.obj o _ ho hln
  simp only [VRep] at g2
  obtain ⟨_, ⟨h0, _⟩ | ⟨_, b', rfl, q⟩⟩ := g2
  · exact absurd h0 hN
  have := q b m1
  subst this
  have hb : s.next ≤ b' := by
    have := g1.pb o b' m1 hro
    rw [g4] at this
    exact this
  obtain ⟨r1, r2, r3⟩ := drepL_sc m3.2.2.2 hsc
  refine ⟨.slice (some ⟨s.next, 0, some 0⟩) N (big + N), blk, ?_, fun w k1 k2 => ⟨?_, m3.1, m3.2.1, m3.2.2.1, r3 w⟩⟩
  · simp only [callP, hp, hf, Option.bind_some, hpu, if_true]
    rw [show body (callP old rounds fns prims n) af xsI ⟨s.heap, s.next, s.next⟩ = some (.slice (some ⟨b', 0, some 0⟩) N (big + N), sf) from hbody]
    exact gc_oneV m2 hb r1 r2
  · simp only [VRep]
    exact ⟨k1, .inr ⟨hN, s.next, rfl, fun b hb => by rw [k2] at hb; cases hb; rfl⟩⟩
end
theorem aget_asetS {α : Type} {r : List (Nat × α)} {i : Nat} {v : α} (h : (aget r i).isSome = true) : aget (aset r i v) i = some v := by
  obtain ⟨u, hu⟩ := Option.isSome_iff_exists.1 h
  exact aget_aset_eq hu
theorem vtup_nil : vtupleOf [] = .tup [] := (rfl)
theorem retOK_tgr {t e n s : Nat} {z : Bool} {l : List D} {x : Value} (h : n = 0 ↔ l = []) : RetOK [(0, .gro t e z l)] (.tup [.gr s 0 n, .sc x]) := by
  refine retOK_rows ?_ (fun o ob ho => by rw [(aget_one ho).2]) (fun o ob ho => by rw [(aget_one ho).1]; simp [vids, vidsL])
  simp only [Cl, ClL, and_true]
  exact ⟨t, e, z, l, rfl, h⟩
section
variable {C : Ctx} {st : VSt}
theorem same_tup2 {a a' b : V} (h : VSame C st a a') : VSame C st (.tup [a, b]) (.tup [a', b]) := by
  intro s μ F u h1 hv
  simp only [VRep, VRepL] at hv ⊢
  obtain ⟨vs, rfl, v1, _, rfl, q1, v2, _, rfl, q2, rfl⟩ := hv
  exact ⟨_, rfl, v1, _, rfl, h s μ F v1 h1 q1, v2, _, rfl, q2, rfl⟩
/-- nothing and an error -/
theorem weak_tupNil (ty e : Nat) {b : V} (hb : flatV b = true) (h0 : C.w0.nx = 0) (hro : st.ro = 0) : Weak C [(0, .tup [.sc (.slice none 0 0), b])] st [(0, .tup [.gr 2 0 0, b])] ⟨[(0, .gro ty e false [])], 1, 0⟩ := by
  refine (weak_nil _ ty e).trans ((weak_slot (t := 0) (v := .tup [.sc (.slice none 0 0), b]) (v' := .tup [.gr 2 st.next 0, b]) rfl (same_tup2 (same_nil (t := ty) (e := e) (z := false) (Nat.lt_succ_self _)))).trans ?_)
  refine weak_to [(st.next, 0)] 1 h0 hro (by simp [okRen, notIn, notKey]) ?_ ?_
  · simp only [aput, Nat.beq, if_true, renF, vren, vrenL, vren_flat _ b hb, aget_cons]
  · simp [renH, aget_cons, renO]
end
end Go.Itp
/-! The equations of the walk upon values, in groups. -/
namespace Go.Itp
theorem VV0 : type_of% (And.intro @gK_nil (And.intro @gK_seq (And.intro @gK_seq_exit (And.intro @gK_seq_ret (And.intro @gK_block_normal (And.intro @gK_block_exit (And.intro @gK_block_ret (And.intro @gC_skip (And.intro @gC_ret (And.intro @gC_exit (And.intro @gC_seq (And.intro @gC_block (And.intro @gC_ops (And.intro @gC_cond (And.intro @gI_true (And.intro @gI_false (And.intro @gC_loop (And.intro @gC_draw (And.intro @gO_nil (And.intro @gO_callF (And.intro @gD_nil (And.intro @gD_cons (And.intro @gD_guard (And.intro @gDV_some (And.intro @gDG_yes (And.intro @gDG_tf (And.intro @gDG_ft (And.intro @gDG_tup (And.intro @vd_load (And.intro @vd_store (And.intro @vd_pure (And.intro @dLoad_ptr (And.intro @dLoad_dp (And.intro @dLoad_sc (And.intro @dLd_some (And.intro @dStore_eq (And.intro @dStOb_row (And.intro @dStOb_gro (And.intro @dStOb_box (@dPure_pure)))))))))))))))))))))))))))))))))))))))) :=
  And.intro @gK_nil (And.intro @gK_seq (And.intro @gK_seq_exit (And.intro @gK_seq_ret (And.intro @gK_block_normal (And.intro @gK_block_exit (And.intro @gK_block_ret (And.intro @gC_skip (And.intro @gC_ret (And.intro @gC_exit (And.intro @gC_seq (And.intro @gC_block (And.intro @gC_ops (And.intro @gC_cond (And.intro @gI_true (And.intro @gI_false (And.intro @gC_loop (And.intro @gC_draw (And.intro @gO_nil (And.intro @gO_callF (And.intro @gD_nil (And.intro @gD_cons (And.intro @gD_guard (And.intro @gDV_some (And.intro @gDG_yes (And.intro @gDG_tf (And.intro @gDG_ft (And.intro @gDG_tup (And.intro @vd_load (And.intro @vd_store (And.intro @vd_pure (And.intro @dLoad_ptr (And.intro @dLoad_dp (And.intro @dLoad_sc (And.intro @dLd_some (And.intro @dStore_eq (And.intro @dStOb_row (And.intro @dStOb_gro (And.intro @dStOb_box (@dPure_pure)))))))))))))))))))))))))))))))))))))))
theorem VV1 : type_of% (And.intro @dPure_new (And.intro @gO_callV (And.intro @gO_callI (And.intro @gMeth_ifc (And.intro @gMeth_sc (And.intro @gM_some (And.intro @methIn_cons (And.intro @pv_appMk (And.intro @appMk_nil (And.intro @vappA_ref (And.intro @appRoom_in (And.intro @gO_cons (And.intro @gO_guard (And.intro @gG_yes (And.intro @gG_tf (And.intro @gG_ft (And.intro @gG_tup (And.intro @gV_pure (And.intro @gV_new (And.intro @gV_newF (And.intro @gV_none (And.intro @gS_some (And.intro @gCall_some (And.intro @gClo_fn (And.intro @gClo_sc (And.intro @gP_nil (And.intro @gP_cons (And.intro @gP_callF (And.intro @gP_callV (And.intro @gP_guard (And.intro @gPV_pure (And.intro @gPV_new (And.intro @gPC_some (And.intro @gPClo_fn (And.intro @gPClo_sc (And.intro @gPG_yes (And.intro @gPG_yesF (And.intro @gPG_tf (And.intro @gPG_ft (@gPG_tup)))))))))))))))))))))))))))))))))))))))) :=
  And.intro @dPure_new (And.intro @gO_callV (And.intro @gO_callI (And.intro @gMeth_ifc (And.intro @gMeth_sc (And.intro @gM_some (And.intro @methIn_cons (And.intro @pv_appMk (And.intro @appMk_nil (And.intro @vappA_ref (And.intro @appRoom_in (And.intro @gO_cons (And.intro @gO_guard (And.intro @gG_yes (And.intro @gG_tf (And.intro @gG_ft (And.intro @gG_tup (And.intro @gV_pure (And.intro @gV_new (And.intro @gV_newF (And.intro @gV_none (And.intro @gS_some (And.intro @gCall_some (And.intro @gClo_fn (And.intro @gClo_sc (And.intro @gP_nil (And.intro @gP_cons (And.intro @gP_callF (And.intro @gP_callV (And.intro @gP_guard (And.intro @gPV_pure (And.intro @gPV_new (And.intro @gPC_some (And.intro @gPClo_fn (And.intro @gPClo_sc (And.intro @gPG_yes (And.intro @gPG_yesF (And.intro @gPG_tf (And.intro @gPG_ft (@gPG_tup)))))))))))))))))))))))))))))))))))))))
theorem VV2 : type_of% (And.intro @loopG_normal (And.intro @loopG_exit (And.intro @loopG_ret (And.intro @retV_ret' (And.intro @retV_normal' (And.intro @retW'_some (And.intro @vresOf_nil (And.intro @vresOf_tmp (And.intro @vresOf_cell (And.intro @vtup_one (And.intro @vtup_two (And.intro @scO_some (And.intro @vp_eq (And.intro @op1_some (And.intro @op2_some (And.intro @pickV_t (And.intro @pickV_f (And.intro @pickV_b (And.intro @boxV_one (And.intro @boxV_agg (And.intro @buildV_eq (And.intro @vfill_nil (And.intro @vfill_one (And.intro @vfill_agg (And.intro @row0V (And.intro @row1V_sc (And.intro @row1V_sl (And.intro @row1V_ref (And.intro @row1V_gr (And.intro @vloadO_ptr (And.intro @vloadO_dp (And.intro @obLoad_box (And.intro @obLoad_row (And.intro @obLoad_gro (And.intro @bload_none (And.intro @bload_some (And.intro @dload_map (And.intro @dv_sc (And.intro @dv_sl (@binV_sc)))))))))))))))))))))))))))))))))))))))) :=
  And.intro @loopG_normal (And.intro @loopG_exit (And.intro @loopG_ret (And.intro @retV_ret' (And.intro @retV_normal' (And.intro @retW'_some (And.intro @vresOf_nil (And.intro @vresOf_tmp (And.intro @vresOf_cell (And.intro @vtup_one (And.intro @vtup_two (And.intro @scO_some (And.intro @vp_eq (And.intro @op1_some (And.intro @op2_some (And.intro @pickV_t (And.intro @pickV_f (And.intro @pickV_b (And.intro @boxV_one (And.intro @boxV_agg (And.intro @buildV_eq (And.intro @vfill_nil (And.intro @vfill_one (And.intro @vfill_agg (And.intro @row0V (And.intro @row1V_sc (And.intro @row1V_sl (And.intro @row1V_ref (And.intro @row1V_gr (And.intro @vloadO_ptr (And.intro @vloadO_dp (And.intro @obLoad_box (And.intro @obLoad_row (And.intro @obLoad_gro (And.intro @bload_none (And.intro @bload_some (And.intro @dload_map (And.intro @dv_sc (And.intro @dv_sl (@binV_sc)))))))))))))))))))))))))))))))))))))))
theorem VV3 : type_of% (And.intro @eqNilV_nil (And.intro @unV_sc (And.intro @convIV_sc (And.intro @mkSliceV_one (And.intro @fldAV_ptr (And.intro @fldAV_dp (And.intro @fldVV_none (And.intro @fldVV_some (And.intro @idxSV_ref (And.intro @idxSV_gr (And.intro @idxSV_sl (And.intro @idxAV_ptr (And.intro @extV_tup (And.intro @mkIfV_sc (And.intro @lenVV_sl (And.intro @lenVV_ref (And.intro @lenVV_gr (And.intro @lenVV_slk (And.intro @lenVV_nil (And.intro @lenVV_str (And.intro @eqIfV_sc (And.intro @slcX'_some (And.intro @pv_mov (And.intro @pv_pick (And.intro @pv_alloc (And.intro @pv_box (And.intro @pv_build (And.intro @pv_mkRow (And.intro @pv_load (And.intro @pv_nilChk (And.intro @pv_bin (And.intro @pv_eqB (And.intro @pv_eqNil (And.intro @pv_un (And.intro @pv_convI (And.intro @pv_convS (And.intro @pv_b2s (And.intro @pv_mkSlice (And.intro @pv_slcS (@pv_slc)))))))))))))))))))))))))))))))))))))))) :=
  And.intro @eqNilV_nil (And.intro @unV_sc (And.intro @convIV_sc (And.intro @mkSliceV_one (And.intro @fldAV_ptr (And.intro @fldAV_dp (And.intro @fldVV_none (And.intro @fldVV_some (And.intro @idxSV_ref (And.intro @idxSV_gr (And.intro @idxSV_sl (And.intro @idxAV_ptr (And.intro @extV_tup (And.intro @mkIfV_sc (And.intro @lenVV_sl (And.intro @lenVV_ref (And.intro @lenVV_gr (And.intro @lenVV_slk (And.intro @lenVV_nil (And.intro @lenVV_str (And.intro @eqIfV_sc (And.intro @slcX'_some (And.intro @pv_mov (And.intro @pv_pick (And.intro @pv_alloc (And.intro @pv_box (And.intro @pv_build (And.intro @pv_mkRow (And.intro @pv_load (And.intro @pv_nilChk (And.intro @pv_bin (And.intro @pv_eqB (And.intro @pv_eqNil (And.intro @pv_un (And.intro @pv_convI (And.intro @pv_convS (And.intro @pv_b2s (And.intro @pv_mkSlice (And.intro @pv_slcS (@pv_slc)))))))))))))))))))))))))))))))))))))))
theorem VV4 : type_of% (And.intro @pv_slcA (And.intro @pv_fldA (And.intro @pv_fldV (And.intro @pv_idxS (And.intro @pv_idxA (And.intro @pv_idxStr (And.intro @pv_idxV (And.intro @pv_ext (And.intro @pv_mkFn (And.intro @pv_mkIf (And.intro @pv_len (And.intro @pv_mm (And.intro @pv_app (And.intro @pv_eqIf (And.intro @pv_store (And.intro @pv_copy (And.intro @pv_ustr (And.intro @wv_store (And.intro @wv_app (And.intro @wv_copy (And.intro @wv_ustr (And.intro @storeV_ptr (And.intro @stO_box1 (And.intro @stO_boxN (And.intro @stO_row_sc (And.intro @stO_gro_sc (And.intro @stO_row_F (And.intro @stRowF_some (And.intro @vappA_gr (And.intro @appGr_eq (And.intro @vappP_gr (And.intro @vappP_nil (And.intro @vappP_ref (And.intro @appNil_pos (And.intro @appNil_zero (And.intro @appFull_pos (And.intro @appFull_zero (And.intro @srcOf_ref (And.intro @srcOf_gr (@srcOf_sl)))))))))))))))))))))))))))))))))))))))) :=
  And.intro @pv_slcA (And.intro @pv_fldA (And.intro @pv_fldV (And.intro @pv_idxS (And.intro @pv_idxA (And.intro @pv_idxStr (And.intro @pv_idxV (And.intro @pv_ext (And.intro @pv_mkFn (And.intro @pv_mkIf (And.intro @pv_len (And.intro @pv_mm (And.intro @pv_app (And.intro @pv_eqIf (And.intro @pv_store (And.intro @pv_copy (And.intro @pv_ustr (And.intro @wv_store (And.intro @wv_app (And.intro @wv_copy (And.intro @wv_ustr (And.intro @storeV_ptr (And.intro @stO_box1 (And.intro @stO_boxN (And.intro @stO_row_sc (And.intro @stO_gro_sc (And.intro @stO_row_F (And.intro @stRowF_some (And.intro @vappA_gr (And.intro @appGr_eq (And.intro @vappP_gr (And.intro @vappP_nil (And.intro @vappP_ref (And.intro @appNil_pos (And.intro @appNil_zero (And.intro @appFull_pos (And.intro @appFull_zero (And.intro @srcOf_ref (And.intro @srcOf_gr (@srcOf_sl)))))))))))))))))))))))))))))))))))))))
theorem VV5 : type_of% (And.intro @srcOf_slk (And.intro @srcOf_nil (And.intro @srcOf_str (And.intro @srcOb_row (And.intro @srcOb_box (And.intro @boxSrc_some (And.intro @srcG_gro (And.intro @toD_ref (And.intro @toD_gr (And.intro @toD_sc (And.intro @toD_sl (And.intro @toDO_row (And.intro @toDG_gro (And.intro @fzV_ref (And.intro @fzV_gr (And.intro @fzV_sl (And.intro @fzV_sc (And.intro @callP_rounds (And.intro @mmV_max (And.intro @mmV_min (And.intro @vslc_both (And.intro @vslc_lo (And.intro @vslc_hi (And.intro @kindS_0 (And.intro @kindS_1 (And.intro @kindS_2 (And.intro @kindS_3 (And.intro @partD_map (And.intro @aget_nil (And.intro @aget_cons (And.intro @aput_nil (And.intro @aput_cons' (And.intro @aputO_some (And.intro @aputO_none (And.intro @aset_aset (And.intro @aget_asetS (And.intro @vtup_nil (And.intro @aset_nil (And.intro @aset_cons' (@adel_nil)))))))))))))))))))))))))))))))))))))))) :=
  And.intro @srcOf_slk (And.intro @srcOf_nil (And.intro @srcOf_str (And.intro @srcOb_row (And.intro @srcOb_box (And.intro @boxSrc_some (And.intro @srcG_gro (And.intro @toD_ref (And.intro @toD_gr (And.intro @toD_sc (And.intro @toD_sl (And.intro @toDO_row (And.intro @toDG_gro (And.intro @fzV_ref (And.intro @fzV_gr (And.intro @fzV_sl (And.intro @fzV_sc (And.intro @callP_rounds (And.intro @mmV_max (And.intro @mmV_min (And.intro @vslc_both (And.intro @vslc_lo (And.intro @vslc_hi (And.intro @kindS_0 (And.intro @kindS_1 (And.intro @kindS_2 (And.intro @kindS_3 (And.intro @partD_map (And.intro @aget_nil (And.intro @aget_cons (And.intro @aput_nil (And.intro @aput_cons' (And.intro @aputO_some (And.intro @aputO_none (And.intro @aset_aset (And.intro @aget_asetS (And.intro @vtup_nil (And.intro @aset_nil (And.intro @aset_cons' (@adel_nil)))))))))))))))))))))))))))))))))))))))
theorem VV6 : type_of% (And.intro @adel_cons' (And.intro @akeep_nil (And.intro @akeep_cons' (And.intro @frozA_nil' (And.intro @frozA_cons' (And.intro @froz_row (And.intro @froz_gro (And.intro @froz_box (And.intro @elemB_nil (And.intro @elemB_cons' (And.intro @vev_tmp (And.intro @vev_int (And.intro @vev_bool (And.intro @vev_str (And.intro @vev_nilS (And.intro @vev_nilP (And.intro @vev_nilI (And.intro @vev_nilF (And.intro @vev_global (And.intro @vev_func (And.intro @vevs_nil (And.intro @consV_some (And.intro @vevs_cons (And.intro @intO_some (And.intro @vevO_none (And.intro @vevO_some (And.intro @vevParts_nil (And.intro @consPV_some (And.intro @vevParts_cons (And.intro @vhid_nil (And.intro @vhid_true (And.intro @vhid_false (And.intro @vhid_none (And.intro @vhid_all (And.intro @decide_yes (And.intro @decide_no (And.intro @b_lss (And.intro @b_leq (And.intro @b_gtr (@b_geq)))))))))))))))))))))))))))))))))))))))) :=
  And.intro @adel_cons' (And.intro @akeep_nil (And.intro @akeep_cons' (And.intro @frozA_nil' (And.intro @frozA_cons' (And.intro @froz_row (And.intro @froz_gro (And.intro @froz_box (And.intro @elemB_nil (And.intro @elemB_cons' (And.intro @vev_tmp (And.intro @vev_int (And.intro @vev_bool (And.intro @vev_str (And.intro @vev_nilS (And.intro @vev_nilP (And.intro @vev_nilI (And.intro @vev_nilF (And.intro @vev_global (And.intro @vev_func (And.intro @vevs_nil (And.intro @consV_some (And.intro @vevs_cons (And.intro @intO_some (And.intro @vevO_none (And.intro @vevO_some (And.intro @vevParts_nil (And.intro @consPV_some (And.intro @vevParts_cons (And.intro @vhid_nil (And.intro @vhid_true (And.intro @vhid_false (And.intro @vhid_none (And.intro @vhid_all (And.intro @decide_yes (And.intro @decide_no (And.intro @b_lss (And.intro @b_leq (And.intro @b_gtr (@b_geq)))))))))))))))))))))))))))))))))))))))
theorem VV7 : type_of% (And.intro @b_eql (And.intro @b_neq (And.intro @b_add (And.intro @b_sub (And.intro @b_mul (And.intro @b_quo_pos (And.intro @b_rem_pos (And.intro @b_seql (And.intro @b_sneq (And.intro @wrap64 (And.intro @u_not (And.intro @u_neg (And.intro @not_decide' (And.intro @lget_zero (And.intro @lget_succ (And.intro @ltake_zero (@ltake_succ))))))))))))))))) :=
  And.intro @b_eql (And.intro @b_neq (And.intro @b_add (And.intro @b_sub (And.intro @b_mul (And.intro @b_quo_pos (And.intro @b_rem_pos (And.intro @b_seql (And.intro @b_sneq (And.intro @wrap64 (And.intro @u_not (And.intro @u_neg (And.intro @not_decide' (And.intro @lget_zero (And.intro @lget_succ (And.intro @ltake_zero (@ltake_succ))))))))))))))))
end Go.Itp
/-
  A law's arguments that are slices: either nothing or somewhere.
-/
namespace Go.Itp
open Go.ChangeShapes Go.WideShapes Go.ChangeAt Go.RowKit
set_option linter.unusedVariables false
theorem slice_v {H : Type} {enc : TypeId × Value → H} {P : Program} {W : World} {base b : Nat} {held : Bool} {t e : TypeId} {v : Value} {d : DataW H} {ps : List MemPlace} (ht : P.underlying t = some (.slice e))
    (hv : Value.okWide P W .any b t v) (h : DataW.Trod enc P W base (fun _ => true) held t v d ps) : v = .slice none 0 0 ∨ ∃ a n c, v = .slice (some a) n c := by
  obtain ⟨n, hn⟩ := h
  have hone : v.cells.toList = [v] := cells_one (by
    unfold Value.okWide at hv
    rw [ht] at hv
    simp only [Cell.okWide, ht, Cell.ok] at hv
    cases v <;> first | rfl | (exfalso; simp at hv))
  rw [hone] at hn
  rcases DataW.trod_slice ht hn with ⟨h1, _⟩ | ⟨a, len, cap, _, _, _, _, h1, _⟩
  · exact .inl (by simpa using h1)
  · exact .inr ⟨_, _, _, by simpa using h1⟩
end Go.Itp
