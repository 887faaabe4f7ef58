/- The law GradeTables returns true for every input; no condition.
   Texts: Draw5, Run, Gc, Call, Law, Prims, Sym, Walk, Walk2, Walk3, Walk4, Lib, Shell, Shell2.
-/
import Derived.Test.YteibgbbfcjgjiaaPart1
import Derived.Laws.StandIn
import Derived.Lib.MakeNoZero
import Derived.ChangeSame
import Derived.ChangeReads
import Derived.ChangeSlices
import Derived.SliceStrings
import Derived.ChangeShapes
import Derived.WideShapes
import Derived.ProofKit
import Derived.OpenShut
import Derived.SizedLaws
/-
  Regions that draw their order, fifth part: the region.
-/
namespace Go.Itp
open Go.RowKit (Below)
variable {P : Program} {E : Env} {G : Ghost} {s s' : St} {w ws w' : World} {o : Oper} {a : Act} {fr fr' : Fr} {v c : Value} {bs : List Blk} {N : Nat}
variable {s0 : St} {al : List AOper} {A : List (List Nat)} {m : Nat} {fr0 : Fr} {T : Nat → Tr} {ops : Array Oper} {μ μ0 μ' : Mu} {ds0 : List Deferred} {l : Array Bool}

theorem noalloc_bs (hT : Trace E s0 al A m fr0 T) {k : Nat} {x : AOper} (hk : k < m) (hx : al[k]? = some x) (h : allocsA x.op = false) : (T k).bs = [] := by
  obtain ⟨b, _, h1, h2⟩ := hT.at_ k x hk hx
  cases b
  · exact (h2 rfl).2
  · exact pstep_noalloc h (h1 rfl)
theorem maskFor_cases (A : List (List Nat)) (al : List AOper) (i : Nat) :
    (maskFor A al i = [] ∧ ∀ k, k < i → k ∈ (A[i]?).getD [] ∨ ∀ x, al[k]? = some x → allocsA x.op = false) ∨ maskFor A al i = maskOf ((A[i]?).getD []) i := by
  unfold maskFor
  split
  · rename_i h
    left
    refine ⟨rfl, fun k hk => ?_⟩
    simp only [List.all_eq_true, List.mem_range] at h
    have := h k hk
    rw [Bool.or_eq_true] at this
    rcases this with h1 | h1
    · exact .inl (ancB_iff.1 h1)
    · right
      intro x hx
      rw [lget_eq, hx] at h1
      simpa using h1
  · right
    rw [lget_eq]
theorem pre_wp (hE : CallsOK P E G.w0) (S : Static P N ops al A m) (hT : Trace E s0 al A m fr0 T) (hr : Rep G μ0 s0 ws) {Q : Exit → Act → World → Prop}
    (htail : runOps E (al.drop m) (T m).fr ⟨hiddenHeap s0.heap (dsOf T m) [], (T m).n, s0.prot⟩ = some (fr', s')) (hQ : After G N s0 μ0 ds0 fr' s' (Q .normal)) :
    ∀ (fuel : Nat) (l : Array Bool) (a : Act) (w : World) (μ : Mu), J P N G ops al m fr0 s0 μ0 ws ds0 T l a w μ → cnt l ops.size ≤ fuel → wpAny P .any ops Q fuel l a w := by
  have hml : m ≤ al.length := by rw [S.len]; exact S.mle
  intro fuel
  induction fuel with
  | zero =>
    intro l a w μ h hc
    by_cases hm : m = 0
    · subst hm
      -- nothing to be done first
      have hn : ops.size = 0 := by
        have := cnt_ge (l := l) 0 ops.size fun i _ hi => h.pre i (by omega)
        omega
      have hrep := h.rep hT hr (i := 0) (Nat.le_refl _) (mask := []) (L := []) (.inl rfl) (fun k hk => by omega) G s0.prot rfl (hr.bp.trans (h.bs.mono hr.sizep)) hr.le hr.pr
        (fun j b q hb hq hp => by obtain ⟨q', q1, _, q3, _⟩ := hr.blk j b hb; rw [hq] at q1; cases q1; exact q3 hp) (.inl hr.sizep)
      rw [cut_self h.hi] at hrep
      refine tail_wp hE S 0 0 l (T 0).fr _ μ a w (Nat.le_refl _) (by omega) h.sz (fun i hi => by omega) (by omega) htail ?_ h.tN hrep ?_
      · intro t v' hv
        rw [hT.fr] at hv
        obtain ⟨c', c1, c2⟩ := h.fr0' t v' (fun k x hk => by omega) hv
        exact ⟨c', c1, tr_mono (fun j q e => by
          have hj : j < s0.next := by
            rcases Nat.lt_or_ge j s0.next with h' | h'
            · exact h'
            · rw [hr.dom j h'] at e; cases e
          rw [h.low j hj]; exact e) _ c2⟩
      · rw [h.df]
        intro μ2 a2 w2 hle
        exact hQ μ2 a2 w2 (Ext.trans ⟨fun j q e => by
          have hj : j < s0.next := by
            rcases Nat.lt_or_ge j s0.next with h' | h'
            · exact h'
            · rw [hr.dom j h'] at e; cases e
          rw [h.low j hj]; exact e, by simp only; rw [hT.n]; exact Nat.le_refl _, h.low⟩ hle)
    · have := cnt_pos (l := l) ops.size (ops.size - 1) (by have := S.mle; omega)
      have hall : ∀ i, i < ops.size → Done l i := by
        intro i hi
        refine Classical.byContradiction fun hd => ?_
        have := cnt_pos (l := l) ops.size i hi hd
        omega
      have hms : m = ops.size := by
        rcases Nat.lt_or_ge m ops.size with h' | h'
        · exact absurd (hall m h') (h.pre m (Nat.le_refl _))
        · have := S.mle; omega
      exact pre_done hE S hT hr htail hQ 0 l a w μ h (fun i hi => hall i (by omega)) (by omega)
  | succ fuel ih =>
    intro l a w μ h hc
    by_cases hall : ∀ i, i < m → Done l i
    · exact pre_done hE S hT hr htail hQ (fuel + 1) l a w μ h hall (by
        have := cnt_ge (l := l) m ops.size fun i hi _ => h.pre i hi
        omega)
    obtain ⟨i0, hi0, hnd0⟩ : ∃ i, i < m ∧ ¬ Done l i := by
      refine Classical.byContradiction fun hn => hall fun i hi => Classical.byContradiction fun hd => hn ⟨i, hi, hd⟩
    refine ⟨fun hnil => absurd (all_done S h.sz hnil i0 (by have := S.mle; omega)) hnd0, fun i hi => ?_⟩
    obtain ⟨o, ho, hnd, hpr⟩ := (ready_spec h.sz).1 hi
    have hio : i < ops.size := by
      rcases Nat.lt_or_ge i ops.size with h' | h'
      · exact h'
      · simp [Array.getElem?_eq_none h'] at ho
    have him : i < m := by
      rcases Nat.lt_or_ge i m with h' | h'
      · exact h'
      · exact absurd (anc_done S h.cl i o ho hpr i0 (S.tail i0 i h' hio (by omega))) hnd0
    obtain ⟨x, hx, hxr⟩ := (resOpers_get _ _ _ S.res).2 i o (by simpa using ho)
    obtain ⟨g1, g2, g3, g4⟩ := resOper_some hxr
    have hf := h.frame S hT hr him ho hnd hpr hx
    obtain ⟨b, hb, hb1, hb2⟩ := hT.at_ i x him hx
    have hw := wanted_ok hf g1 hb
    have hds := hT.ds i (by omega)
    have hns := hT.ns i him
    have hsz : i < l.size := by rw [h.sz]; exact hio
    have hcnt : cnt (l.setIfInBounds i true) ops.size ≤ fuel := by
      have := (cnt_set hsz hnd ops.size).1 hio
      omega
    -- the memory that it sees
    have hrepi : Rep ⟨G.w0, w, (T i).n⟩ (cut μ (T i).n) ⟨hiddenHeap s0.heap (dsOf T i) (maskFor A al i), (T i).n, (T i).n⟩ w := by
      refine h.rep hT hr (by omega) (mask := maskFor A al i) (L := (A[i]?).getD []) ?_ ?_ ⟨G.w0, w, (T i).n⟩ (T i).n rfl (Below.refl _ _) ?_ rfl ?_ (.inr (Nat.le_refl _))
      · rcases maskFor_cases A al i with ⟨h1, _⟩ | h1
        · exact .inl h1
        · exact .inr h1
      · intro k hk hvis hne
        have hanc : k ∈ (A[i]?).getD [] → Done l k := fun hm => anc_done S h.cl i o ho hpr k hm
        rcases maskFor_cases A al i with ⟨h1, h2⟩ | h1
        · rcases h2 k hk with h3 | h3
          · exact hanc h3
          · obtain ⟨y, hy⟩ : ∃ y, al[k]? = some y := ⟨al[k]'(by omega), by simp [show k < al.length by omega]⟩
            exact absurd (noalloc_bs hT (by omega) hy (h3 y hy)) hne
        · rcases hvis with h2 | h2
          · rw [h1] at h2
            cases i with
            | zero => omega
            | succ i => simp [maskOf] at h2
          · exact hanc h2
      · have := hr.size0; have := h.bs.size; simp only; omega
      · intro j b q hb hq hp
        have := hr.ltg hb
        have h0 := hT.mono i 0 (by omega) (by omega)
        rw [hT.n] at h0
        omega
    unfold wpOp
    simp only [ho, hw]
    cases b
    · simp only [Bool.false_eq_true, if_false]
      obtain ⟨hv, hbs⟩ := hb2 rfl
      have e : (T (i + 1)).n = (T i).n := by rw [hns, hbs]; simp
      refine ih _ _ _ _ (h.step S hT him ho hnd hpr hx g2 g3 (μ' := cut μ (T i).n) (w' := w) (c := undef) (fun j hj => if_pos hj) (fun j hj => if_neg (by omega)) (by rw [hv]; rfl) (Below.refl _ _) (fun idx b hb => by rw [hbs] at hb; simp at hb) (fun idx idx' b b' q q' hb => by rw [hbs] at hb; simp at hb)) hcnt
    · simp only [if_true]
      have hps := hb1 rfl
      rw [hds] at hps
      rcases g4 with ⟨g4, g5⟩ | g4
      · rw [g4] at hps
        refine .inl (pstep_sound2 hf hrepi (by exact hE) g5 hps _ Q fun c w' ⟨μ', m1, m2, m3, m4⟩ => ?_)
        have hpush : ∀ idx b, (T i).bs[idx]? = some b → hget (St.push ⟨hiddenHeap s0.heap (dsOf T i) (maskFor A al i), (T i).n, (T i).n⟩ (T i).bs).heap ((T i).n + idx) = some b := by
          intro idx b hb
          simp only [St.push]
          rw [hget_hpush, if_pos ⟨by omega, by have := idx_lt hb; omega⟩, show (T i).n + idx - (T i).n = idx by omega]
          exact hb
        refine ih _ _ _ _ (h.step S hT him ho hnd hpr hx g2 g3 (μ' := μ') (w' := w') (c := c) (fun j hj => ?_) (fun j hj => ?_) m2 m4 (fun idx b hb => ?_) (fun idx idx' b b' q q' hb hb' hne hq hq' => ?_)) hcnt
        · rw [m1.ag j hj]; exact if_pos hj
        · exact m3.dom j (by simp only [St.push]; omega)
        · obtain ⟨q, q1, _, q3, q4⟩ := m3.blk _ _ (hpush idx b hb)
          exact ⟨q, q1, q3 (by simp only [St.push]; omega), q4⟩
        · exact m3.sep _ _ b b' q q' (hpush idx b hb) (hpush idx' b' hb') (by omega) hq hq'
      · rw [g4] at hps
        simp [pstep] at hps
where
  pre_done (hE : CallsOK P E G.w0) (S : Static P N ops al A m) (hT : Trace E s0 al A m fr0 T) (hr : Rep G μ0 s0 ws) {Q : Exit → Act → World → Prop}
      (htail : runOps E (al.drop m) (T m).fr ⟨hiddenHeap s0.heap (dsOf T m) [], (T m).n, s0.prot⟩ = some (fr', s')) (hQ : After G N s0 μ0 ds0 fr' s' (Q .normal))
      (fuel : Nat) (l : Array Bool) (a : Act) (w : World) (μ : Mu) (h : J P N G ops al m fr0 s0 μ0 ws ds0 T l a w μ) (hall : ∀ i, i < m → Done l i) (hf : ops.size - m ≤ fuel) : wpAny P .any ops Q fuel l a w := by
    have hml : m ≤ al.length := by rw [S.len]; exact S.mle
    have hn0 : s0.next ≤ (T m).n := by rw [← hT.n]; exact hT.mono m 0 (by omega) (Nat.le_refl _)
    have hle0 : Mu.le μ0 μ := fun j q e => by
      have hj : j < s0.next := by
        rcases Nat.lt_or_ge j s0.next with h' | h'
        · exact h'
        · rw [hr.dom j h'] at e; cases e
      rw [h.low j hj]; exact e
    have hrep := h.rep hT hr (i := m) (Nat.le_refl _) (mask := []) (L := []) (.inl rfl) (fun k hk _ _ => hall k hk) G s0.prot rfl (hr.bp.trans (h.bs.mono hr.sizep)) hr.le hr.pr
      (fun j b q hb hq hp => by obtain ⟨q', q1, _, q3, _⟩ := hr.blk j b hb; rw [hq] at q1; cases q1; exact q3 hp) (.inl hr.sizep)
    rw [cut_self h.hi] at hrep
    have hcutle : ∀ n, Mu.le (cut μ n) μ := fun n j q e => by
      unfold cut at e
      split at e
      · exact e
      · cases e
    refine tail_wp hE S fuel m l (T m).fr _ μ a w (Nat.le_refl _) S.mle h.sz (fun i hi => ⟨fun hd => ?_, fun him => hall i him⟩) hf htail ?_ h.tN hrep ?_
    · rcases Nat.lt_or_ge i m with h' | h'
      · exact h'
      · exact absurd hd (h.pre i h')
    · intro t v' hv
      rcases hT.get hml S.uniq t m (Nat.le_refl _) with ⟨k, y, h1, h2, h3, h4⟩ | ⟨h1, h2⟩
      · rw [h4] at hv
        cases hv
        obtain ⟨c', c1, c2⟩ := h.fr1 k y t h1 h2 h3 (hall k h1)
        exact ⟨c', c1, tr_mono (hcutle _) _ c2⟩
      · rw [h2] at hv
        obtain ⟨c', c1, c2⟩ := h.fr0' t v' (fun k y hk hy hyt => absurd hyt (h1 k y hk hy)) hv
        exact ⟨c', c1, tr_mono hle0 _ c2⟩
    · rw [h.df]
      intro μ2 a2 w2 hle
      exact hQ μ2 a2 w2 (Ext.trans ⟨hle0, hn0, h.low⟩ hle)
theorem getD_rep (n i : Nat) : (Array.replicate n false).getD i false = false := by
  simp only [Array.getD]
  split <;> simp
/-- A region that draws its order. -/
theorem draw_wp (hE : CallsOK P E G.w0) {id : Nat} {ops : Array Oper} {k : List Nat} {ac : AC} (hc : compDraw P N ops.toList m k = some ac) {fr : Fr} {s : St} {μ : Mu} {a : Act} {w : World} {Q : Exit → Act → World → Prop} {ex : Ex}
    (he : exec E ac fr s = some (ex, fr', s')) (hf : FRel μ fr a.tmps) (hN : a.tmps.size = N) (hr : Rep G μ s w) (hQ : After G N s μ a.defers fr' s' (Q .normal)) : ex = .normal ∧ (Code.region id ops true).wp P Q a w := by
  simp only [compDraw, Option.bind_eq_some_iff] at hc
  obtain ⟨al, hal, hc⟩ := hc
  split at hc
  case isFalse => cases hc
  rename_i hok
  cases hc
  have S := static_of hal hok
  simp only [exec, Option.bind_eq_some_iff, Option.map_eq_some_iff] at he
  obtain ⟨⟨fr1, ds1, n1⟩, h1, ⟨fr2, s2⟩, h2, e⟩ := he
  simp only [Prod.mk.injEq] at e
  obtain ⟨rfl, rfl, rfl⟩ := e
  refine ⟨rfl, ?_⟩
  obtain ⟨T, t1, t2, t3, t4, t5, t6, t7⟩ := runPre_trace s _ _ _ _ _ _ _ _ h1
  have hml : m ≤ al.length := by rw [S.len]; exact S.mle
  have hlen : (al.take m).length = m := by simp; omega
  rw [hlen] at t5 t6 t7
  have hget : ∀ i x, i < m → al[i]? = some x → (al.take m)[i]? = some x := fun i x hi hx => by rw [List.getElem?_take, if_pos hi]; exact hx
  have hmask : ∀ i, i < m → ((((List.range m).map (maskFor (ancs ops.toList []) al))[i]?).getD []) = maskFor (ancs ops.toList []) al i := fun i hi => by simp [hi]
  have hds : ∀ i, i ≤ m → (T i).ds = dsOf T i := by
    intro i
    induction i with
    | zero => intro _; rw [t2]; rfl
    | succ i ih =>
      intro hi
      obtain ⟨x, hx⟩ : ∃ x, al[i]? = some x := ⟨al[i]'(by omega), by simp [show i < al.length by omega]⟩
      rw [(t4 i x (hget i x (by omega) hx)).2.2.1, ih (by omega)]
      rfl
  have hT : Trace E s al (ancs ops.toList []) m fr T := by
    refine ⟨t1, t3, fun i x hi hx => ?_, fun i x hi hx => (t4 i x (hget i x hi hx)).2.1, fun i hi => ?_, hds⟩
    · have := (t4 i x (hget i x hi hx)).1
      rw [hmask i hi] at this
      exact this
    · obtain ⟨x, hx⟩ : ∃ x, al[i]? = some x := ⟨al[i]'(by omega), by simp [show i < al.length by omega]⟩
      exact (t4 i x (hget i x hi hx)).2.2.2
  refine wp_region_any hE.mix ?_
  have hr' : Rep G μ s { w with drawn := w.drawn + 1 } := hr.drew
  refine pre_wp hE S hT hr' (ds0 := a.defers) (fr' := fr2) (s' := s2) ?_ (fun μ2 a2 w2 hle hf2 => hQ μ2 a2 w2 hle (hf2.keep k)) ops.size _ a _ μ ?_ ?_
  · rw [t5, t7, ← hds m (Nat.le_refl _), t6]
    exact h2
  · have hnd : ∀ i, ¬ Done (Array.replicate ops.size false) i := fun i hd => by unfold Done at hd; rw [getD_rep] at hd; cases hd
    refine ⟨by simp, fun i o ho hd => absurd hd (hnd i), fun i _ => hnd i, hN, rfl, fun k x t _ _ _ hd => absurd hd (hnd k), fun t v _ hv => hf t v hv, Below.refl _ _, fun j _ => rfl, fun k hk _ j h1 _ => ?_, fun j hj => ?_, fun k _ hd => absurd hd (hnd k), fun k k' _ _ hd => absurd hd (hnd k)⟩
    · have := hT.mono k 0 (by omega) (by omega)
      rw [hT.n] at this
      exact hr.dom j (by omega)
    · have := hT.mono m 0 (by omega) (Nat.le_refl _)
      rw [hT.n] at this
      exact hr.dom j (by omega)
  · have : ∀ n, cnt (Array.replicate ops.size false) n ≤ n := by
      intro n
      induction n with
      | zero => simp [cnt]
      | succ n ih => simp only [cnt]; split <;> omega
    exact this _
end Go.Itp
/-
  The interpreter's code against the machine's: branches, loops.
-/
namespace Go.Itp
open Go.RowKit (Below)
variable {P : Program} {E : Env} {G : Ghost} {μ : Mu} {s s' : St} {w : World} {o : Oper} {a : Act} {fr fr' : Fr} {v : Value} {bs : List Blk} {N : Nat}

def exOf : Ex → Exit
  | .normal => .normal
  | .exit id => .exit id
  | .ret => .ret
theorem iter_rounds {Q : Exit → Act → World → Prop} {c : Code} (f : Fr → St → Option (Ex × Fr × St)) (ex : Ex) (ds : List Deferred)
    (hbody : ∀ (fr : Fr) (s : St) (μ : Mu) (a : Act) (w : World) (Q' : Exit → Act → World → Prop) (e1 : Ex) (fr1 : Fr) (s1 : St), f fr s = some (e1, fr1, s1) → FRel μ fr a.tmps → a.tmps.size = N → a.defers = ds → Rep G μ s w →
      After G N s μ ds fr1 s1 (Q' (exOf e1)) → c.wp P Q' a w) :
    ∀ (n : Nat) (fr : Fr) (s : St) (μ : Mu) (a : Act) (w : World), iter f n fr s = some (ex, fr', s') → FRel μ fr a.tmps → a.tmps.size = N → a.defers = ds → Rep G μ s w →
    After G N s μ ds fr' s' (Q (exOf ex)) → Code.rounds P c Q n a w
  | 0, fr, s, μ, a, w, h, _, _, _, _, _ => by simp [iter] at h
  | n + 1, fr, s, μ, a, w, h, hf, hN, hd, hr, hQ => by
    rw [rounds_succ]
    simp only [iter] at h
    split at h
    · rename_i fr1 s1 h1
      refine hbody fr s μ a w _ .normal fr1 s1 h1 hf hN hd hr fun μ1 a1 w1 hle hf1 hN1 hd1 hr1 => ?_
      exact iter_rounds f ex ds hbody n fr1 s1 μ1 a1 w1 h hf1 hN1 hd1 hr1 fun μ2 a2 w2 hle2 => hQ μ2 a2 w2 (hle.trans hle2)
    · rename_i r hne
      have hne' : ex ≠ .normal := by
        intro e
        subst e
        exact hne fr' s' h
      refine hbody fr s μ a w _ ex fr' s' h hf hN hd hr fun μ1 a1 w1 hle hf1 hN1 hd1 hr1 => ?_
      have := hQ μ1 a1 w1 hle hf1 hN1 hd1 hr1
      cases ex with
      | normal => exact absurd rfl hne'
      | exit id => exact this
      | ret => exact this
theorem exec_iter (k : List Nat) (b : AC) (fr : Fr) (s : St) : exec E (.loop k b) fr s = iter (fun fr s => exec E b (fkeep k fr) s) E.rounds fr s := by simp [exec]
theorem exec_wp (hE : CallsOK P E G.w0) : ∀ (c : Code) (ac0 ac : AC), compC P N c ac0 = some ac → ∀ (fr : Fr) (s : St) (μ : Mu) (a : Act) (w : World) (Q : Exit → Act → World → Prop) (ex : Ex) (fr' : Fr) (s' : St),
    exec E ac fr s = some (ex, fr', s') → FRel μ fr a.tmps → a.tmps.size = N → Rep G μ s w → After G N s μ a.defers fr' s' (Q (exOf ex)) → c.wp P Q a w := by
  intro c
  induction c with
  | skip =>
    intro ac0 ac h fr s μ a w Q ex fr' s' he hf hN hr hQ
    simp [compC] at h; subst h
    simp [exec] at he
    obtain ⟨rfl, rfl, rfl⟩ := he
    exact wp_skip (hQ μ a w (Ext.refl s μ) hf hN rfl hr)
  | region id ops d =>
    intro ac0 ac h fr s μ a w Q ex fr' s' he hf hN hr hQ
    cases d with
    | true =>
      cases ac0 with
      | bad => simp [compC] at h; subst h; simp [exec] at he
      | draw p t hd k =>
        simp only [compC] at h
        have hex : ex = .normal := by
          simp only [compDraw, Option.bind_eq_some_iff] at h
          obtain ⟨al, _, h⟩ := h
          split at h
          case isFalse => cases h
          cases h
          simp only [exec, Option.bind_eq_some_iff, Option.map_eq_some_iff, Prod.mk.injEq] at he
          obtain ⟨_, _, _, _, e, _⟩ := he
          exact e.symm
        subst hex
        exact (draw_wp hE h he hf hN hr hQ).2
      | _ => simp [compC] at h
    | false =>
      cases ac0 <;> simp [compC] at h
      case bad => subst h; simp [exec] at he
      case ops l0 k =>
        obtain ⟨al, hal, rfl⟩ := h
        simp only [exec, Option.map_eq_some_iff] at he
        obtain ⟨⟨fr1, s1⟩, he, e⟩ := he
        simp only [Prod.mk.injEq] at e
        obtain ⟨rfl, rfl, rfl⟩ := e
        refine wp_region ?_
        have := runOps_wp (Q := Q) hE ops.toList al 0 fr s μ a w (fun j => by simp) hal he hf hN hr (fun μ2 a2 w2 hle hf2 => hQ μ2 a2 w2 hle (hf2.keep k))
        rw [List.range_eq_range']
        simpa using this
  | seq x y ihx ihy =>
    intro ac0 ac h fr s μ a w Q ex fr' s' he hf hN hr hQ
    cases ac0 with
    | bad => simp [compC] at h; subst h; simp [exec] at he
    | seq x0 y0 =>
      simp only [compC, Option.bind_eq_some_iff, Option.map_eq_some_iff] at h
      obtain ⟨x1, hx, y1, hy, rfl⟩ := h
      simp only [exec, Option.bind_eq_some_iff] at he
      obtain ⟨r, hr1, he⟩ := he
      refine wp_seq ?_
      split at he
      · rename_i fr1 s1
        refine ihx x0 x1 hx fr s μ a w _ .normal fr1 s1 hr1 hf hN hr fun μ1 a1 w1 hle hf1 hN1 hd1 hr1 => ?_
        exact ihy y0 y1 hy fr1 s1 μ1 a1 w1 Q ex fr' s' he hf1 hN1 hr1 (by rw [hd1]; exact fun μ2 a2 w2 hle2 => hQ μ2 a2 w2 (hle.trans hle2))
      · rename_i hne
        cases he
        refine ihx x0 x1 hx fr s μ a w _ ex fr' s' hr1 hf hN hr fun μ1 a1 w1 hle hf1 hN1 hd1 hr1 => ?_
        have := hQ μ1 a1 w1 hle hf1 hN1 hd1 hr1
        cases ex with
        | normal => exact absurd rfl (hne fr' s')
        | exit id => exact this
        | ret => exact this
    | _ => simp [compC] at h
  | cond c t e iht ihe =>
    intro ac0 ac h fr s μ a w Q ex fr' s' he hf hN hr hQ
    cases ac0 with
    | bad => simp [compC] at h; subst h; simp [exec] at he
    | cond c0 t0 e0 =>
      simp only [compC] at h
      split at h
      case isFalse => cases h
      rename_i hc
      simp only [Option.bind_eq_some_iff, Option.map_eq_some_iff] at h
      obtain ⟨t1, ht, e1, he1, rfl⟩ := h
      simp only [exec, Option.bind_eq_some_iff] at he
      obtain ⟨u, hu, he⟩ := he
      split at he
      case h_2 => cases he
      rename_i b
      have hb := tr_bool (ev_tr hf hc hu)
      refine wp_cond hb ?_
      cases b
      · exact ihe e0 e1 he1 fr s μ a w Q ex fr' s' (by simpa using he) hf hN hr hQ
      · exact iht t0 t1 ht fr s μ a w Q ex fr' s' (by simpa using he) hf hN hr hQ
    | _ => simp [compC] at h
  | block id b ih =>
    intro ac0 ac h fr s μ a w Q ex fr' s' he hf hN hr hQ
    cases ac0 <;> simp [compC] at h
    case bad => subst h; simp [exec] at he
    case block id0 b0 =>
      obtain ⟨b1, hb, rfl⟩ := h
      simp only [exec, Option.map_eq_some_iff] at he
      obtain ⟨⟨e1, fr1, s1⟩, hr1, he⟩ := he
      refine wp_block (ih b0 b1 hb fr s μ a w _ e1 fr1 s1 hr1 hf hN hr fun μ1 a1 w1 hle hf1 hN1 hd1 hrr => ?_)
      cases e1 with
      | normal =>
        simp only [Prod.mk.injEq] at he
        obtain ⟨rfl, rfl, rfl⟩ := he
        exact hQ μ1 a1 w1 hle hf1 hN1 hd1 hrr
      | ret =>
        simp only [Prod.mk.injEq] at he
        obtain ⟨rfl, rfl, rfl⟩ := he
        exact hQ μ1 a1 w1 hle hf1 hN1 hd1 hrr
      | exit i =>
        simp only at he
        split at he
        · rename_i hi
          have hi' := nbeq.1 hi
          simp only [Prod.mk.injEq] at he
          obtain ⟨rfl, rfl, rfl⟩ := he
          simp only [exOf, Exit.inBlock, hi', if_true]
          exact hQ μ1 a1 w1 hle hf1 hN1 hd1 hrr
        · rename_i hi
          simp only [Prod.mk.injEq] at he
          obtain ⟨rfl, rfl, rfl⟩ := he
          simp only [exOf, Exit.inBlock]
          rw [if_neg (fun e => hi (nbeq.2 e))]
          exact hQ μ1 a1 w1 hle hf1 hN1 hd1 hrr
  | loop b ih =>
    intro ac0 ac h fr s μ a w Q ex fr' s' he hf hN hr hQ
    cases ac0 <;> simp [compC] at h
    case bad => subst h; simp [exec] at he
    case loop k b0 =>
      obtain ⟨b1, hb, rfl⟩ := h
      rw [exec_iter] at he
      refine wp_loop_rounds E.rounds (iter_rounds (N := N) (G := G) _ ex a.defers ?_ E.rounds fr s μ a w he hf hN rfl hr hQ)
      intro fr2 s2 μ2 a2 w2 Q2 e2 fr3 s3 h2 hf2 hN2 hd2 hr2 hQ2
      exact ih b0 b1 hb (fkeep k fr2) s2 μ2 a2 w2 Q2 e2 fr3 s3 h2 (hf2.keep k) hN2 hr2 (by rw [hd2]; exact hQ2)
  | rangeFunc f p x b _ _ =>
    intro ac0 ac h fr s μ a w Q ex fr' s' he hf hN hr hQ
    cases ac0 <;> simp [compC] at h
    subst h; simp [exec] at he
  | exit id =>
    intro ac0 ac h fr s μ a w Q ex fr' s' he hf hN hr hQ
    simp [compC] at h; subst h
    simp [exec] at he
    obtain ⟨rfl, rfl, rfl⟩ := he
    exact wp_exit (hQ μ a w (Ext.refl s μ) hf hN rfl hr)
  | scope b _ =>
    intro ac0 ac h fr s μ a w Q ex fr' s' he hf hN hr hQ
    cases ac0 <;> simp [compC] at h
    subst h; simp [exec] at he
  | label l =>
    intro ac0 ac h fr s μ a w Q ex fr' s' he hf hN hr hQ
    cases ac0 <;> simp [compC] at h
    subst h; simp [exec] at he
  | goto l =>
    intro ac0 ac h fr s μ a w Q ex fr' s' he hf hN hr hQ
    cases ac0 <;> simp [compC] at h
    subst h; simp [exec] at he
  | ret =>
    intro ac0 ac h fr s μ a w Q ex fr' s' he hf hN hr hQ
    simp [compC] at h; subst h
    simp [exec] at he
    obtain ⟨rfl, rfl, rfl⟩ := he
    exact wp_ret (hQ μ a w (Ext.refl s μ) hf hN rfl hr)
  | refuse y =>
    intro ac0 ac h fr s μ a w Q ex fr' s' he hf hN hr hQ
    cases ac0 <;> simp [compC] at h
    subst h; simp [exec] at he
end Go.Itp
/-
  A call: the body of a function, what it returns, the blocks that the result leads to, numbered anew.
-/
namespace Go.Itp
open Go.RowKit (Below)
variable {P : Program} {E : Env} {G : Ghost} {μ : Mu} {s s' : St} {w : World} {a : Act} {fr fr' : Fr} {v : Value} {bs : List Blk} {N : Nat}

/-! ### numbering anew -/
section
variable {n0 : Nat} {f : Nat → Nat} {μ ν : Mu}
/-- what has to hold of a number for a value that leads to it to be renumbered -/
def RenOK (_n0 : Nat) (f : Nat → Nat) (μ ν : Mu) (i : Nat) : Prop := ν (f i) = μ i
theorem trA_ren (hlow : ∀ i, i < n0 → RenOK n0 f μ ν i) {p : Option Addr} (h : ∀ i ∈ addrIds n0 p, RenOK n0 f μ ν i) : trA ν (addrRen f p) = trA μ p ∧ ∀ c, trC ν (addrRen f p) c = trC μ p c := by
  rcases p with _ | ⟨b, o, _ | k⟩
  · exact ⟨rfl, fun _ => rfl⟩
  · exact ⟨rfl, fun _ => rfl⟩
  · have hb : RenOK n0 f μ ν b := by
      by_cases hn : n0 ≤ b
      · exact h b (by simp only [addrIds]; rw [if_pos (by rw [Nat.ble_eq]; exact hn)]; simp)
      · exact hlow b (by omega)
    unfold RenOK at hb
    exact ⟨by simp [addrRen, trA, hb], fun c => by simp [addrRen, trC, hb]⟩
mutual
theorem tr_ren (hlow : ∀ i, i < n0 → RenOK n0 f μ ν i) : ∀ (v : Value), (∀ i ∈ ids n0 v, RenOK n0 f μ ν i) → tr ν (ren f v) = tr μ v
  | .pointer p, h => by simp only [ids] at h; simp [ren, tr, (trA_ren hlow h).1]
  | .slice p n c, h => by simp only [ids] at h; simp [ren, tr, (trA_ren hlow h).1, (trA_ren hlow h).2]
  | .func fn ⟨x⟩ ⟨y⟩, h => by
    simp only [ids, List.mem_append] at h
    simp [ren, tr, trL_ren hlow x fun i hi => h i (.inl hi), trL_ren hlow y fun i hi => h i (.inr hi)]
  | .iface t v, h => by simp only [ids] at h; simp [ren, tr, tr_ren hlow v h]
  | .agg ⟨l⟩, h => by simp only [ids] at h; simp [ren, tr, trL_ren hlow l h]
  | .tuple ⟨l⟩, h => by simp only [ids] at h; simp [ren, tr, trL_ren hlow l h]
  | .bool _, _ => rfl
  | .int _ _, _ => rfl
  | .float _ _, _ => rfl
  | .complex _ _ _, _ => rfl
  | .string _, _ => rfl
  | .map _, _ => rfl
  | .chan _, _ => rfl
  | .nilFunc, _ => rfl
  | .nilIface, _ => rfl
theorem trL_ren (hlow : ∀ i, i < n0 → RenOK n0 f μ ν i) : ∀ (l : List Value), (∀ i ∈ idsL n0 l, RenOK n0 f μ ν i) → trL ν (renL f l) = trL μ l
  | [], _ => rfl
  | v :: r, h => by
    simp only [idsL, List.mem_append] at h
    simp [renL, trL, tr_ren hlow v fun i hi => h i (.inl hi), trL_ren hlow r fun i hi => h i (.inr hi)]
end
theorem renL_length : ∀ (l : List Value), (renL f l).length = l.length
  | [] => rfl
  | v :: r => by simp [renL, renL_length r]
end

section
variable {n0 : Nat} {f : Nat → Nat}
theorem addrRen_id (hf : ∀ i, i < n0 → f i = i) {p : Option Addr} (h : addrIds n0 p = []) : addrRen f p = p := by
  rcases p with _ | ⟨b, o, _ | k⟩
  · rfl
  · rfl
  · simp only [addrIds] at h
    split at h
    · cases h
    · rename_i hn
      rw [Nat.ble_eq] at hn
      simp [addrRen, hf b (by omega)]
mutual
theorem ren_id (hf : ∀ i, i < n0 → f i = i) : ∀ (v : Value), ids n0 v = [] → ren f v = v
  | .pointer p, h => by simp only [ids] at h; simp [ren, addrRen_id hf h]
  | .slice p n c, h => by simp only [ids] at h; simp [ren, addrRen_id hf h]
  | .func fn ⟨x⟩ ⟨y⟩, h => by
    simp only [ids, List.append_eq_nil_iff] at h
    simp [ren, renL_id hf x h.1, renL_id hf y h.2]
  | .iface t v, h => by simp only [ids] at h; simp [ren, ren_id hf v h]
  | .agg ⟨l⟩, h => by simp only [ids] at h; simp [ren, renL_id hf l h]
  | .tuple ⟨l⟩, h => by simp only [ids] at h; simp [ren, renL_id hf l h]
  | .bool _, _ => rfl
  | .int _ _, _ => rfl
  | .float _ _, _ => rfl
  | .complex _ _ _, _ => rfl
  | .string _, _ => rfl
  | .map _, _ => rfl
  | .chan _, _ => rfl
  | .nilFunc, _ => rfl
  | .nilIface, _ => rfl
theorem renL_id (hf : ∀ i, i < n0 → f i = i) : ∀ (l : List Value), idsL n0 l = [] → renL f l = l
  | [], _ => rfl
  | v :: r, h => by
    simp only [idsL, List.append_eq_nil_iff] at h
    simp [renL, ren_id hf v h.1, renL_id hf r h.2]
end
end
theorem addrIds_ge {n0 : Nat} {p : Option Addr} : ∀ i ∈ addrIds n0 p, n0 ≤ i := by
  intro i hi
  rcases p with _ | ⟨b, o, _ | k⟩ <;> simp only [addrIds] at hi
  · cases hi
  · cases hi
  · split at hi
    · rename_i h; rw [Nat.ble_eq] at h; simp at hi; omega
    · cases hi
mutual
theorem ids_ge {n0 : Nat} : ∀ (v : Value), ∀ i ∈ ids n0 v, n0 ≤ i
  | .pointer p, i, h => addrIds_ge i (by simpa only [ids] using h)
  | .slice p n c, i, h => addrIds_ge i (by simpa only [ids] using h)
  | .func fn ⟨x⟩ ⟨y⟩, i, h => by
    simp only [ids, List.mem_append] at h
    exact h.elim (idsL_ge x i) (idsL_ge y i)
  | .iface t v, i, h => ids_ge v i (by simpa only [ids] using h)
  | .agg ⟨l⟩, i, h => idsL_ge l i (by simpa only [ids] using h)
  | .tuple ⟨l⟩, i, h => idsL_ge l i (by simpa only [ids] using h)
  | .bool _, i, h => by simp [ids] at h
  | .int _ _, i, h => by simp [ids] at h
  | .float _ _, i, h => by simp [ids] at h
  | .complex _ _ _, i, h => by simp [ids] at h; omega
  | .string _, i, h => by simp [ids] at h
  | .map _, i, h => by simp [ids] at h
  | .chan _, i, h => by simp [ids] at h
  | .nilFunc, i, h => by simp [ids] at h
  | .nilIface, i, h => by simp [ids] at h
theorem idsL_ge {n0 : Nat} : ∀ (l : List Value), ∀ i ∈ idsL n0 l, n0 ≤ i
  | [], i, h => by simp [idsL] at h
  | v :: r, i, h => by
    simp only [idsL, List.mem_append] at h
    exact h.elim (ids_ge v i) (idsL_ge r i)
end
theorem reach_some (n0 : Nat) (h : Heap) : ∀ (f : Nat) (todo done d : List Nat), reach n0 h f todo done = some d → (∀ i ∈ todo, n0 ≤ i) → done.Nodup →
    d.Nodup ∧ (∀ i ∈ done, i ∈ d) ∧ (∀ i ∈ todo, i ∈ d) ∧ (∀ i ∈ d, i ∈ done ∨ n0 ≤ i ∧ ∃ b, hget h i = some b ∧ ∀ j ∈ idsL n0 b.cells, j ∈ d)
  | f, [], done, d, e, _, hn => by
    cases f <;> simp [reach] at e <;> subst e <;> exact ⟨hn, fun _ hi => hi, ⟨fun _ hi => (List.not_mem_nil hi).elim, fun _ hi => Or.inl hi⟩⟩
  | 0, _ :: _, done, d, e, _, _ => by simp [reach] at e
  | f + 1, i :: todo, done, d, e, hge, hn => by
    simp only [reach] at e
    split at e
    · rename_i hi
      rw [elemB_iff] at hi
      obtain ⟨h1, h2, h3, h4⟩ := reach_some n0 h f todo done d e (fun j hj => hge j (List.mem_cons_of_mem _ hj)) hn
      exact ⟨h1, h2, fun j hj => by rcases List.mem_cons.1 hj with rfl | hj; exact h2 _ hi; exact h3 j hj, h4⟩
    · rename_i hi
      rw [elemB_iff] at hi
      simp only [Option.bind_eq_some_iff] at e
      obtain ⟨b, hb, e⟩ := e
      obtain ⟨h1, h2, h3, h4⟩ := reach_some n0 h f _ (i :: done) d e (fun j hj => by
        rcases List.mem_append.1 hj with hj | hj
        · exact idsL_ge _ j hj
        · exact hge j (List.mem_cons_of_mem _ hj)) (List.nodup_cons.2 ⟨hi, hn⟩)
      refine ⟨h1, fun j hj => h2 j (List.mem_cons_of_mem _ hj), fun j hj => ?_, fun j hj => ?_⟩
      · rcases List.mem_cons.1 hj with rfl | hj
        · exact h2 _ List.mem_cons_self
        · exact h3 j (List.mem_append.2 (.inr hj))
      · rcases h4 j hj with h5 | h5
        · rcases List.mem_cons.1 h5 with rfl | h5
          · exact .inr ⟨hge j List.mem_cons_self, b, hb, fun k hk => h3 k (List.mem_append.2 (.inl hk))⟩
          · exact .inl h5
        · exact .inr h5
theorem indexOf_lt : ∀ (l : List Nat) (i : Nat), i ∈ l → indexOf i l < l.length ∧ l[indexOf i l]? = some i
  | [], i, h => by cases h
  | j :: r, i, h => by
    simp only [indexOf]
    by_cases hij : i = j
    · rw [if_pos (nbeq.2 hij)]; simp [hij]
    · rw [if_neg (by rw [nbeq]; exact hij)]
      have := indexOf_lt r i ((List.mem_cons.1 h).resolve_left hij)
      exact ⟨by simp [this.1], by simp only [List.getElem?_cons_succ]; exact this.2⟩
theorem pickUp_some {n0 : Nat} {h : Heap} {ord : List Nat} : ∀ (l : List Nat) {bs : List Blk}, pickUp n0 h ord l = some bs → bs.length = l.length ∧
    ∀ (k i : Nat), l[k]? = some i → ∃ b, hget h i = some b ∧ bs[k]? = some { b with cells := renL (renTo n0 ord) b.cells }
  | [], bs, e => by simp [pickUp] at e; subst e; simp
  | j :: r, bs, e => by
    simp only [pickUp, Option.bind_eq_some_iff, Option.map_eq_some_iff] at e
    obtain ⟨b, hb, bs', hbs, rfl⟩ := e
    obtain ⟨h1, h2⟩ := pickUp_some r hbs
    refine ⟨by simp [h1], fun k i hk => ?_⟩
    cases k with
    | zero => simp at hk; subst hk; exact ⟨b, hb, rfl⟩
    | succ k => simp at hk; simpa using h2 k i hk

/-- Behind a call that wrote nothing that was there: the caller's memory, and on it what the result leads to. -/
theorem Rep.back {sf : St} {wf : World} {μf : Mu} (hr : Rep G μ s w) (hf : Rep ⟨G.w0, w, s.next⟩ μf sf wf) (hle : Ext s μ sf μf) {ord : List Nat} {bs : List Blk} (hn : ord.Nodup)
    (hord : ∀ i ∈ ord, s.next ≤ i ∧ ∃ b, hget sf.heap i = some b ∧ ∀ j ∈ idsL s.next b.cells, j ∈ ord) (hb : pickUp s.next sf.heap ord ord = some bs) {v c : Value} (hv : tr μf v = some c) (hvi : ∀ i ∈ ids s.next v, i ∈ ord) :
    PPost G μ s w (ren (renTo s.next ord) v) bs c wf := by
  obtain ⟨b1, b2⟩ := pickUp_some ord hb
  have hp : sf.prot = s.next := hf.pr
  let ν : Mu := fun i => if i < s.next then μ i else match ord[i - s.next]? with | some j => μf j | none => none
  have hlow : ∀ i, i < s.next → RenOK s.next (renTo s.next ord) μf ν i := by
    intro i hi
    have e1 : renTo s.next ord i = i := by unfold renTo; rw [if_pos (by rw [Nat.blt_eq]; exact hi)]
    unfold RenOK
    rw [e1]
    show (if i < s.next then μ i else _) = μf i
    rw [if_pos hi]
    exact (hle.ag i hi).symm
  have hin : ∀ i, i ∈ ord → RenOK s.next (renTo s.next ord) μf ν i := by
    intro i hi
    have hge := (hord i hi).1
    obtain ⟨k1, k2⟩ := indexOf_lt ord i hi
    have e1 : renTo s.next ord i = s.next + indexOf i ord := by unfold renTo; rw [if_neg (by rw [Nat.blt_eq]; omega)]
    unfold RenOK
    rw [e1]
    show (if s.next + indexOf i ord < s.next then _ else match ord[s.next + indexOf i ord - s.next]? with | some j => μf j | none => none) = μf i
    rw [if_neg (by omega), show s.next + indexOf i ord - s.next = indexOf i ord by omega, k2]
  have hνle : Mu.le μ ν := by
    intro i l h
    have hi : i < s.next := by
      rcases Nat.lt_or_ge i s.next with h' | h'
      · exact h'
      · rw [hr.dom i h'] at h; cases h
    show (if i < s.next then μ i else _) = some l
    rw [if_pos hi]
    exact h
  have hbel : Below w.heap.size w wf := hf.bp
  -- a block of the result
  have hnew : ∀ i b, s.next ≤ i → i < s.next + bs.length → bs[i - s.next]? = some b → ∃ j bj l, ord[i - s.next]? = some j ∧ hget sf.heap j = some bj ∧ μf j = some l ∧ ν i = some l ∧ w.heap.size ≤ l.blk ∧ BRel ν wf l b := by
    intro i b h1 h2 h3
    obtain ⟨j, hj⟩ : ∃ j, ord[i - s.next]? = some j := by
      have : i - s.next < ord.length := by omega
      exact ⟨_, List.getElem?_eq_getElem this⟩
    obtain ⟨bj, c1, c2⟩ := b2 _ j hj
    rw [h3] at c2
    have c2' := (Option.some.inj c2)
    have hjm := List.mem_of_getElem? hj
    obtain ⟨hge, bj', hbj', hcl⟩ := hord j hjm
    rw [c1] at hbj'
    cases hbj'
    obtain ⟨l, l1, l2, l3, arr, fz, a1, a2, a3, a4, a5⟩ := hf.blk j bj c1
    have hνi : ν i = some l := by
      show (if i < s.next then μ i else match ord[i - s.next]? with | some j => μf j | none => none) = some l
      rw [if_neg (by omega), hj]
      exact l1
    refine ⟨j, bj, l, hj, c1, l1, hνi, l3 (by rw [hp]; exact hge), arr, fz, (by rw [c2']; exact a1), a2, ?_, ?_, ?_⟩
    · intro k u hk
      rw [c2'] at hk
      have hk' : k < bj.cells.length := by
        rcases Nat.lt_or_ge k bj.cells.length with h' | h'
        · exact h'
        · simp only at hk; rw [List.getElem?_eq_none (by rw [renL_length]; exact h')] at hk; cases hk
      obtain ⟨cu, d1, d2⟩ := a3 k (bj.cells[k]) (by simp [hk'])
      refine ⟨cu, d1, ?_⟩
      -- the k-th cell, renumbered
      have hall : ∀ (l : List Value) (k : Nat), (renL (renTo s.next ord) l)[k]? = (l[k]?).map (ren (renTo s.next ord)) := by
        intro l
        induction l with
        | nil => intro k; simp [renL]
        | cons x l ih => intro k; cases k <;> simp [renL, ih]
      simp only [hall, List.getElem?_eq_getElem hk', Option.map_some, Option.some.injEq] at hk
      subst hk
      rw [tr_ren hlow]
      · exact d2
      · intro i' hi'
        refine hin i' (hcl i' ?_)
        have hsub : ∀ (l : List Value) (k : Nat) (x : Value), l[k]? = some x → ∀ i ∈ ids s.next x, i ∈ idsL s.next l := by
          intro l
          induction l with
          | nil => intro k x h; simp at h
          | cons y l ih =>
            intro k x h i hi
            simp only [idsL, List.mem_append]
            cases k with
            | zero => simp at h; subst h; exact .inl hi
            | succ k => simp at h; exact .inr (ih k x h i hi)
        exact hsub bj.cells k _ (by simp [hk']) i' hi'
    · rw [c2']; simp only [renL_length]; exact a4
    · rw [c2']; simp only [renL_length]; exact a5
  refine ⟨ν, ⟨hνle, by simp [St.push], fun j hj => if_pos hj⟩, ?_, ⟨hf.b0, ?_, hr.le, ?_, ?_, ?_, ?_, ?_, hr.pr⟩, hbel⟩
  · rw [tr_ren hlow v fun i hi => hin i (hvi i hi)]; exact hv
  · exact hr.bp.trans (hbel.mono hr.sizep)
  · intro i b hi
    simp only [St.push] at hi
    rw [hget_hpush] at hi
    split at hi
    · rename_i hc
      obtain ⟨j, bj, l, _, _, _, h1, h2, h3⟩ := hnew i b hc.1 hc.2 hi
      exact ⟨l, h1, Nat.le_trans hr.size0 h2, fun _ => Nat.le_trans hr.sizep h2, h3⟩
    · obtain ⟨l, l1, l2, l3, l4⟩ := hr.blk i b hi
      exact ⟨l, hνle _ _ l1, l2, l3, l4.mono hνle (hbel.block _ l4.lt)⟩
  · intro i j b d l m hi hj hij hil hjm
    simp only [St.push] at hi hj
    rw [hget_hpush] at hi hj
    split at hi
    · rename_i hc
      obtain ⟨i', bi, l', o1, g1, m1, n1, q1, _⟩ := hnew i b hc.1 hc.2 hi
      rw [n1] at hil
      cases hil
      split at hj
      · rename_i hc2
        obtain ⟨j', bj, m', o2, g2, m2, n2, q2, _⟩ := hnew j d hc2.1 hc2.2 hj
        rw [n2] at hjm
        cases hjm
        refine hf.sep i' j' bi bj _ _ g1 g2 ?_ m1 m2
        intro e
        subst e
        have : i - s.next = j - s.next := by
          have k1 : i - s.next < ord.length := by omega
          have k2 : j - s.next < ord.length := by omega
          rw [List.getElem?_eq_getElem k1] at o1
          rw [List.getElem?_eq_getElem k2] at o2
          have o1' := Option.some.inj o1
          have o2' := Option.some.inj o2
          exact (List.getElem_inj hn).1 (o1'.trans o2'.symm)
        omega
      · obtain ⟨m', m1', _, _, m4⟩ := hr.blk j d hj
        rw [hνle _ _ m1'] at hjm
        cases hjm
        have := m4.lt
        omega
    · obtain ⟨l', l1', _, _, l4⟩ := hr.blk i b hi
      rw [hνle _ _ l1'] at hil
      cases hil
      split at hj
      · rename_i hc2
        obtain ⟨j', bj, m', o2, g2, m2, n2, q2, _⟩ := hnew j d hc2.1 hc2.2 hj
        rw [n2] at hjm
        cases hjm
        have := l4.lt
        omega
      · obtain ⟨m', m1', _, _, m4⟩ := hr.blk j d hj
        rw [hνle _ _ m1'] at hjm
        cases hjm
        exact hr.sep i j b d _ _ hi hj hij l1' m1'
  · simp only [St.push]
    exact nd_hpush _ _ _ hr.nd hr.lt
  · intro i hi
    simp only [St.push] at hi ⊢
    rcases keys_hpush _ _ _ i hi with h | h
    · have := hr.lt i h; omega
    · omega
  · intro i hi
    simp only [St.push] at hi
    show (if i < s.next then μ i else match ord[i - s.next]? with | some j => μf j | none => none) = none
    rw [if_neg (by omega), List.getElem?_eq_none (by omega)]
theorem gc_ok {sf : St} {wf : World} {μf : Mu} (hr : Rep G μ s w) (hf : Rep ⟨G.w0, w, s.next⟩ μf sf wf) (hle : Ext s μ sf μf) {v v' c : Value} (hg : gc s.next sf.heap v = some (v', bs)) (hv : tr μf v = some c) :
    PPost G μ s w v' bs c wf := by
  unfold gc at hg
  split at hg
  · rename_i he
    simp only [Option.some.injEq, Prod.mk.injEq] at hg
    obtain ⟨rfl, rfl⟩ := hg
    have := hr.back hf hle (ord := []) (bs := []) List.nodup_nil (fun i hi => by cases hi) rfl hv (fun i hi => by rw [he] at hi; cases hi)
    rw [ren_id (fun i hi => by unfold renTo; rw [if_pos (by rw [Nat.blt_eq]; exact hi)]) _ he] at this
    exact this
  · simp only [Option.bind_eq_some_iff, Option.map_eq_some_iff, Prod.mk.injEq] at hg
    obtain ⟨d, hd, bs', hbs, rfl, rfl⟩ := hg
    obtain ⟨h1, _, h3, h4⟩ := reach_some s.next sf.heap _ _ [] d hd (fun i hi => ids_ge v i hi) List.nodup_nil
    refine hr.back hf hle (by unfold List.Nodup at h1 ⊢; rw [List.pairwise_reverse]; exact h1.imp Ne.symm) (fun i hi => ?_) hbs hv (fun i hi => by simpa using h3 i hi)
    rcases h4 i (by simpa using hi) with h | ⟨h5, b, h6, h7⟩
    · cases h
    · exact ⟨h5, b, h6, fun j hj => by simpa using h7 j hj⟩
end Go.Itp
/-
  A call of a function: the interpreter's against the machine's.
-/
namespace Go.Itp
open Go.RowKit (Below)
variable {P : Program} {E : Env} {G : Ghost} {μ : Mu} {s s' : St} {w : World} {a : Act} {fr fr' : Fr} {v : Value} {bs : List Blk} {N : Nat}

def resultsOf (P : Program) : List ResultVar → Option (List (Nat × Option (Option Nat)))
  | [] => some []
  | .tmp t :: r => (resultsOf P r).map ((t, none) :: ·)
  | .cell t ty :: r => (aggOf P ty).bind fun g => (resultsOf P r).map ((t, some g) :: ·)
/-- What ties the interpreter's functions to the program's. -/
structure FunOK (P : Program) (f : FuncId) (af : AFun) : Prop where
  ok : ∃ fn c ac0, P.funcs[f]? = some fn ∧ fn.body = some c ∧ (fn.name == "runtime.NumGoroutine") = false ∧ fn.ntmps = af.n ∧ compC P af.n c ac0 = some af.code ∧ resultsOf P fn.results.toList = some af.res
def FunsOK (P : Program) (fns : FuncId → Option AFun) : Prop := ∀ f af, fns f = some af → FunOK P f af
def PrimsOK (P : Program) (prims : FuncId → List Value → St → Option (Value × List Blk)) (w0 : World) : Prop :=
  ∀ f xs s v bs, prims f xs s = some (v, bs) → ∀ G μ w cs, G.w0 = w0 → Rep G μ s w → trL μ xs = some cs → CallYields P f cs.toArray w (PPost G μ s w v bs)

theorem fget_args0 : ∀ (xs : List Value) (n i : Nat), fget (args0 n xs) i = if n ≤ i then xs[i - n]? else none
  | [], n, i => by simp [args0, fget]
  | v :: r, n, i => by
    simp only [args0, fget]
    by_cases h : i = n
    · subst h; rw [if_pos (nbeq.2 rfl)]; simp
    · rw [if_neg (by rw [nbeq]; exact h), fget_args0 r (n + 1) i]
      by_cases h2 : n + 1 ≤ i
      · rw [if_pos h2, if_pos (by omega), show i - n = (i - (n + 1)) + 1 by omega]; simp
      · rw [if_neg h2, if_neg (by omega)]
theorem args_rel {xs cs : List Value} (h : trL μ xs = some cs) (k : Nat) : FRel μ (args0 0 xs) (cs.toArray ++ Array.replicate k undef) := by
  intro i v e
  rw [fget_args0] at e
  simp at e
  obtain ⟨c, h1, h2⟩ := trL_get _ h i v e
  refine ⟨c, ?_, h2⟩
  have hi : i < cs.length := by
    rcases Nat.lt_or_ge i cs.length with h' | h'
    · exact h'
    · simp [List.getElem?_eq_none h'] at h1
  rw [Array.getElem?_append_left (by simpa using hi)]
  simpa using h1
def resSem (tmps : Array Value) : ResultVar → Sem Value
  | .tmp t => pure (tmps.getD t undef)
  | .cell a t => do loadVar t (← asAddr (tmps.getD a undef))
theorem results_ok (hE : OldOK E G.w0) (hr : Rep G μ s w) {tmps : Array Value} (hf : FRel μ fr tmps) : ∀ (rs : List ResultVar) (l : List (Nat × Option (Option Nat))) (vs : List Value), resultsOf P rs = some l → resOf E fr s l = some vs →
    ∃ cs : List Value, (rs.mapM (resSem tmps)).run P w = .ok cs w ∧ trL μ vs = some cs
  | [], l, vs, h1, h2 => by
    simp [resultsOf] at h1; subst h1
    simp [resOf] at h2; subst h2
    exact ⟨[], by simp, rfl⟩
  | .tmp t :: r, l, vs, h1, h2 => by
    simp only [resultsOf, Option.map_eq_some_iff] at h1
    obtain ⟨l', hl, rfl⟩ := h1
    simp only [resOf, Option.bind_eq_some_iff, Option.map_eq_some_iff] at h2
    obtain ⟨v, hv, vs', hvs, rfl⟩ := h2
    obtain ⟨cs, c1, c2⟩ := results_ok hE hr hf r l' vs' hl hvs
    obtain ⟨c, d1, d2⟩ := hf t v hv
    have hd : tmps.getD t undef = c := by simp [Array.getD_eq_getD_getElem?, d1]
    refine ⟨c :: cs, ?_, by simp [trL, d2, c2]⟩
    simp only [List.mapM_cons, resSem, Sem.run_bind, hd, Sem.run_pure, Result.andThen_ok, c1]
  | .cell t ty :: r, l, vs, h1, h2 => by
    simp only [resultsOf, Option.bind_eq_some_iff, Option.map_eq_some_iff] at h1
    obtain ⟨g, hg, l', hl, rfl⟩ := h1
    simp only [resOf, Option.bind_eq_some_iff] at h2
    obtain ⟨p, hp, h2⟩ := h2
    split at h2
    case h_2 => cases h2
    rename_i ad
    simp only [Option.bind_eq_some_iff, Option.map_eq_some_iff] at h2
    obtain ⟨v, hv, vs', hvs, rfl⟩ := h2
    obtain ⟨cs, c1, c2⟩ := results_ok hE hr hf r l' vs' hl hvs
    obtain ⟨c, d1, d2⟩ := hf t _ hp
    obtain ⟨q, rfl, e2⟩ := tr_pointer d2
    obtain ⟨b, of, rfl⟩ := trA_some e2
    have hd : tmps.getD t undef = .pointer (some ⟨b, of, none⟩) := by simp [Array.getD_eq_getD_getElem?, d1]
    obtain ⟨c, f1, f2⟩ := loadVar_ok (P := P) hE hr hg hv e2
    refine ⟨c :: cs, ?_, by simp [trL, f2, c2]⟩
    simp only [List.mapM_cons, resSem, Sem.run_bind, hd, asAddr, Sem.run_pure, Result.andThen_ok, f1, c1]
theorem tuple_tr {vs cs : List Value} (h : trL μ vs = some cs) : tr μ (tupleOf vs) = some (tupleOf cs) := by
  have hl := trL_length _ h
  rcases vs with _ | ⟨v, _ | ⟨u, r⟩⟩
  · rcases cs with _ | ⟨c, cs⟩
    · rfl
    · simp at hl
  · rcases cs with _ | ⟨c, _ | ⟨d, cs⟩⟩
    · simp at hl
    · simpa [trL, tupleOf, Option.bind_eq_some_iff] using h
    · simp at hl
  · rcases cs with _ | ⟨c, _ | ⟨d, cs⟩⟩
    · simp at hl
    · simp at hl
    · simp only [tupleOf, tr]
      rw [h]
      rfl
theorem run_results {fn : Func} {tmps : Array Value} {cs : List Value} (h : (fn.results.toList.mapM (resSem tmps)).run P w = .ok cs w) :
    (results fn tmps).run P w = .ok (tupleOf cs) w := by
  have e : results fn tmps = (do let vs ← fn.results.mapM (resSem tmps); pure (if h : vs.size = 1 then vs[0] else Value.tuple vs)) := by
    unfold results
    congr 1
  rw [e, Array.mapM_eq_mapM_toList]
  simp only [Sem.run_bind, Sem.run_map, h, Result.andThen_ok, Sem.run_pure]
  rcases cs with _ | ⟨c, _ | ⟨d, cs⟩⟩ <;> simp [tupleOf]
/-- the body of a function, run to its end -/
theorem body_ok (hE : CallsOK P E G.w0) {f : FuncId} {af : AFun} (hk : FunOK P f af) {xs cs : List Value} (hb : body E af xs s = some (v, s')) (hr : Rep G μ s w) (hxs : trL μ xs = some cs) :
    Calls P f cs.toArray w fun e w' => ∃ c, e = .returned c ∧ WPost G μ s v s' c w' := by
  obtain ⟨fn, c, ac0, h1, h2, h3, h4, h5, h6⟩ := hk.ok
  unfold body at hb
  split at hb
  case isFalse => cases hb
  rename_i hn
  rw [Nat.ble_eq] at hn
  have hlen := trL_length _ hxs
  simp only [Option.bind_eq_some_iff] at hb
  obtain ⟨⟨ex, fr1, s1⟩, he, hb⟩ := hb
  refine calls_of_wp h1 h2 ?_
  have hsz : (cs.toArray ++ Array.replicate (fn.ntmps - cs.toArray.size) undef).size = af.n := by
    simp only [Array.size_append, List.size_toArray, Array.size_replicate]; omega
  refine exec_wp hE c ac0 af.code h5 _ _ μ _ w _ ex fr1 s1 he (args_rel hxs _) hsz hr ?_
  intro μ1 a1 w1 hle hf1 hN1 hd1 hr1
  have key : ∀ (vs : List Value), resOf E fr1 s1 af.res = some vs → tupleOf vs = v → s1 = s' →
      a1.defers = [] ∧ ∃ c, (results fn a1.tmps).run P w1 = .ok c w1 ∧ ∃ c', Ending.returned c = .returned c' ∧ WPost G μ s v s' c' w1 := by
    intro vs hvs hv hs
    subst hv
    subst hs
    obtain ⟨ds, d1, d2⟩ := results_ok (P := P) hE.old hr1 hf1 _ _ _ h6 hvs
    exact ⟨hd1, tupleOf ds, run_results d1, _, rfl, μ1, hle, tuple_tr d2, hr1⟩
  cases ex with
  | exit id => cases hb
  | normal =>
    simp only [Option.map_eq_some_iff, Prod.mk.injEq] at hb
    obtain ⟨vs, hvs, hv, hs⟩ := hb
    exact key vs hvs hv hs
  | ret =>
    simp only [Option.map_eq_some_iff, Prod.mk.injEq] at hb
    obtain ⟨vs, hvs, hv, hs⟩ := hb
    exact key vs hvs hv hs
theorem callYields_of_calls {f : FuncId} {fn : Func} {c : Code} {args : Array Value} {R : Value → World → Prop} (h1 : P.funcs[f]? = some fn) (h2 : fn.body = some c) (h3 : (fn.name == "runtime.NumGoroutine") = false)
    (h : Calls P f args w fun e w' => ∃ c, e = .returned c ∧ R c w') : CallYields P f args w R := by
  intro o a next Q k
  have : (callFunc f args).run P w = .ok (.enter f args) w := by
    have h3' : fn.name ≠ "runtime.NumGoroutine" := by simpa using h3
    simp [callFunc, h1, h2, h3']
  rw [this, Oper.upon_enter]
  exact h.mono fun e w' ⟨c, he, hR⟩ => by subst he; exact k c w' hR
theorem callP_ok {old : Nat → Nat → Option Value} {rounds : Nat} {fns : FuncId → Option AFun} {prims : FuncId → List Value → St → Option (Value × List Blk)} {w0 : World}
    (hmix : P.follows .mixedOrders = true) (hold : ∀ b o v, old b o = some v → ∃ c, w0.cell? ⟨b, o, none⟩ = some c ∧ ∀ μ, tr μ v = some c) (hfns : FunsOK P fns) (hprims : PrimsOK P prims w0) : ∀ n, CallsOK P (callP old rounds fns prims n) w0
  | 0 => ⟨hmix, fun b o v h => hold b o v h, fun f xs s v bs h => by simp [callP] at h, fun f xs s v s' h => by simp [callP] at h⟩
  | n + 1 => by
    have ih := callP_ok (rounds := rounds) hmix hold hfns hprims n
    refine ⟨hmix, fun b o v h => hold b o v h, ?_, ?_⟩
    · intro f xs s v bs h G μ w cs hG hr hxs
      simp only [callP] at h
      split at h
      · rename_i r hp
        cases h
        exact hprims f xs s v bs hp G μ w cs hG hr hxs
      · simp only [Option.bind_eq_some_iff] at h
        obtain ⟨af, haf, h⟩ := h
        split at h
        case isFalse => cases h
        simp only [Option.bind_eq_some_iff] at h
        obtain ⟨⟨u, sf⟩, hb, hg⟩ := h
        have hk := hfns f af haf
        obtain ⟨fn, c, ac0, h1, h2, h3, _⟩ := hk.ok
        have hr' : Rep ⟨G.w0, w, s.next⟩ μ { s with prot := s.next } w := by
          refine ⟨hr.b0, Below.refl _ _, hr.size0, fun i b hi => ?_, hr.sep, hr.nd, hr.lt, hr.dom, rfl⟩
          obtain ⟨l, l1, l2, l3, l4⟩ := hr.blk i b hi
          exact ⟨l, l1, l2, fun hp => by have := hr.ltg hi; simp only at hp; omega, l4⟩
        have hcalls := body_ok (G := ⟨G.w0, w, s.next⟩) (by rw [hG]; exact ih) hk hb hr' hxs
        refine callYields_of_calls h1 h2 h3 (hcalls.mono fun e w' ⟨c, he, μ', m1, m2, m3⟩ => ⟨c, he, ?_⟩)
        exact gc_ok hr m3 (m1.of rfl) hg m2
    · intro f xs s v s' h G μ w cs hG hr hxs
      simp only [callP, Option.bind_eq_some_iff] at h
      obtain ⟨af, haf, h⟩ := h
      split at h
      · cases h
      have hk := hfns f af haf
      obtain ⟨fn, c, ac0, h1, h2, h3, _⟩ := hk.ok
      exact callYields_of_calls h1 h2 h3 (body_ok (by rw [hG]; exact ih) hk h hr hxs)
end Go.Itp
/-
  From the interpreter's answer to the machine's, for a function that is called with what was there before.
-/
namespace Go.Itp
open Go.RowKit (Below)

/-- The reader of old memory: what the world holds, where that leads to nothing new. -/
def oldOf (w : World) (b o : Nat) : Option Value :=
  match w.cell? ⟨b, o, none⟩ with
  | some (.slice (some ⟨b', o', some k⟩) 0 0) => some (.complex .f32 b' (enc2 o' k))
  | some v => if (ids 0 v).isEmpty then some v else none
  | none => none
theorem oldOf_ok (w : World) (b o : Nat) (v : Value) (h : oldOf w b o = some v) : ∃ c, w.cell? ⟨b, o, none⟩ = some c ∧ ∀ μ, tr μ v = some c := by
  unfold oldOf at h
  split at h
  · rename_i b' o' k hu
    cases h
    exact ⟨_, hu, fun μ => by simp only [tr, dec2_enc2]⟩
  · rename_i u hu
    split at h
    · rename_i hc
      cases h
      exact ⟨_, hu, fun μ => tr_old _ (by simpa using hc)⟩
    · cases h
  · cases h
theorem oldOf_some {w : World} {b o : Nat} {v : Value} (h : w.cell? ⟨b, o, none⟩ = some v) (h2 : ids 0 v = []) : oldOf w b o = some v := by
  unfold oldOf
  rw [h]
  split
  · rename_i b' o' k hu
    cases hu
    simp [ids, addrIds] at h2
  · rename_i u _ hu
    cases hu
    simp [h2]
  · rename_i hu; cases hu
/-- a slice without room whose address no cell has -/
theorem oldOf_odd {w : World} {b o b' o' k : Nat} (h : w.cell? ⟨b, o, none⟩ = some (.slice (some ⟨b', o', some k⟩) 0 0)) : oldOf w b o = some (.complex .f32 b' (enc2 o' k)) := by
  unfold oldOf
  rw [h]
  rfl
/-- rounds of a loop: more than any -/
def many : Nat := 1152921504606846976
def St.empty : St := ⟨[], 0, 0⟩
theorem law_ok {P : Program} (hmix : P.follows .mixedOrders = true) {fns : FuncId → Option AFun} {prims : World → FuncId → List Value → St → Option (Value × List Blk)} (hfns : FunsOK P fns) (hprims : ∀ w, PrimsOK P (prims w) w) {f : FuncId} {af : AFun} (hf : fns f = some af) {xs : List Value} (w : World)
    (hxs : idsL 0 xs = []) (n : Nat) {v : Value} {s' : St} (h : body (callP (oldOf w) many fns (prims w) n) af xs St.empty = some (v, s')) (hv : ids 0 v = []) :
    Calls P f xs.toArray w fun e w' => e = .returned v ∧ Below w.heap.size w w' := by
  have hr : Rep ⟨w, w, 0⟩ (fun _ => none) St.empty w :=
    ⟨Below.refl _ _, Below.refl _ _, Nat.le_refl _, fun i b hi => by simp [St.empty, hget] at hi, fun i j b c l m hi => by simp [St.empty, hget] at hi, by simp [St.empty], fun i hi => by simp [St.empty] at hi, fun _ _ => rfl, rfl⟩
  refine (body_ok (G := ⟨w, w, 0⟩) (callP_ok hmix (oldOf_ok w) hfns (hprims w) n) (hfns f af hf) h hr (trL_old xs hxs)).mono fun e w' ⟨c, he, μ', _, h2, h3⟩ => ?_
  rw [tr_old v hv] at h2
  cases h2
  exact ⟨he, h3.b0⟩
end Go.Itp
/-
  Functions of Go's library that the model answers itself, for the interpreter.
-/
namespace Go.Itp
open Go.RowKit (Below)

def findByte (c : UInt8) : List UInt8 → Nat → Option Nat
  | [], _ => none
  | b :: r, i => if b.toNat = c.toNat then some i else findByte c r (i + 1)
theorem findByte_eq (c : UInt8) (g : Nat → UInt8) : ∀ (l : List UInt8) (k : Nat), (∀ j x, l[j]? = some x → g (k + j) = x) → (List.range' k l.length).find? (fun i => g i == c) = findByte c l k
  | [], k, _ => rfl
  | b :: r, k, h => by
    have h0 := h 0 b rfl
    simp only [Nat.add_zero] at h0
    simp only [List.length_cons, List.range'_succ, List.find?_cons, findByte, h0]
    have ih := findByte_eq c g r (k + 1) (fun j x hj => by have := h (j + 1) x (by simpa using hj); rw [← this]; congr 1; omega)
    by_cases hb : b = c
    · subst hb; simp
    · have : ¬ b.toNat = c.toNat := fun e => hb (UInt8.toNat_inj.1 e)
      have hbc : (b == c) = false := by simpa using hb
      rw [if_neg this, ← ih, hbc]
def firstIdxA (s : ByteArray) (c : UInt8) : Int := match findByte c s.data.toList 0 with | some i => i | none => -1
theorem firstIdxA_eq (s : ByteArray) (c : UInt8) : firstIdx s c = firstIdxA s c := by
  unfold firstIdx firstIdxA
  have := findByte_eq c (fun i => s[i]!) s.data.toList 0 (fun j x hj => by
    simp only [Nat.zero_add]
    have hlt : j < s.data.toList.length := by
      rcases Nat.lt_or_ge j s.data.toList.length with h | h
      · exact h
      · rw [List.getElem?_eq_none h] at hj; cases hj
    have hlt' : j < s.size := by simpa using hlt
    rw [getElem!_pos s j hlt']
    rw [List.getElem?_eq_getElem hlt] at hj
    have := Option.some.inj hj
    rw [← this]
    rfl)
  rw [List.range_eq_range', show s.size = s.data.toList.length by simp, this]
  cases findByte c s.data.toList 0 <;> rfl

inductive Prim where
  | same
  | indexByte
  | count
  | makeNoZero
def entryOf : Prim → Array Value → Sem Value
  | .same => Extern.AbiNoEscape.same
  | .indexByte => Extern.BytealgIndexByte.indexByte
  | .count => Extern.BytealgCount.count
  | .makeNoZero => fun _ => stuck "no entry"
def primA (k : Prim) (t : TypeId) (xs : List Value) (s : St) : Option (Value × List Blk) :=
  match k, xs with
  | .same, [x] => some (x, [])
  | .indexByte, [.string b, .int .u8 c] => some (.int .i64 (firstIdxA b c.toNat.toUInt8), [])
  | .count, [.string b, .int .u8 c] => some (.int .i64 (b.foldl (fun n x => if x == c.toNat.toUInt8 then n + 1 else n) (0 : Nat)), [])
  | .makeNoZero, [.int .i64 n] => if 0 ≤ n ∧ n ≤ room then some (.slice (some ⟨s.next, 0, some 0⟩) n.toNat big, [⟨[], 1, true, t⟩]) else none
  | _, _ => none
/-- what is to be known of such a function -/
structure PrimFact (P : Program) (f : FuncId) (k : Prim) (t : TypeId) : Prop where
  fn : ∃ fn, P.funcs[f]? = some fn ∧ (fn.name == "runtime.NumGoroutine") = false ∧ fn.body.isNone = true ∧
    (match k with
      | .makeNoZero => ∃ ps r, Extern.findNext fn = none ∧ Extern.find fn = some (Extern.BytealgMakeNoZero.makeNoZero ps #[r]) ∧ P.underlying r = some (.slice t)
      | k => Extern.findNext fn = none ∧ Extern.find fn = some (entryOf k))
variable {P : Program} {G : Ghost} {μ : Mu} {s : St} {w : World}
theorem yields_extern {f : FuncId} {fn : Func} {e : Array Value → Sem Value} (hf : P.funcs[f]? = some fn) (hname : (fn.name == "runtime.NumGoroutine") = false)
    (hb : fn.body.isNone = true) (hn : Extern.findNext fn = none) (he : Extern.find fn = some e) {args : Array Value} {c : Value} {w' : World} {R : Value → World → Prop} (h : (e args).run P w = .ok c w') (r : R c w') : CallYields P f args w R := by
  intro o a next Q k
  rw [run_callFunc_extern hf hname hb hn he, h]
  exact k c w' r
theorem prim_ok {f : FuncId} {k : Prim} {t : TypeId} (hk : PrimFact P f k t) {xs cs : List Value} {v : Value} {bs : List Blk} (h : primA k t xs s = some (v, bs)) (hr : Rep G μ s w) (hx : trL μ xs = some cs) : CallYields P f cs.toArray w (PPost G μ s w v bs) := by
  obtain ⟨fn, hf, h1, h2, h3⟩ := hk.fn
  unfold primA at h
  split at h
  · simp only [Option.some.injEq, Prod.mk.injEq] at h
    obtain ⟨rfl, rfl⟩ := h
    simp only [trL, Option.bind_eq_some_iff, Option.map_eq_some_iff] at hx
    obtain ⟨c, hc, l, hl, rfl⟩ := hx
    cases hl
    exact yields_extern hf h1 h2 h3.1 h3.2 (c := c) (w' := w) rfl (ppost_same hr hc)
  · rename_i b c
    simp only [Option.some.injEq, Prod.mk.injEq] at h
    obtain ⟨rfl, rfl⟩ := h
    simp [trL, tr] at hx
    subst hx
    refine yields_extern hf h1 h2 h3.1 h3.2 (c := .int .i64 (firstIdx b c.toNat.toUInt8)) (w' := w) (run_indexByte_string b c w) ?_
    rw [← firstIdxA_eq]
    exact ppost_same hr rfl
  · rename_i b c
    simp only [Option.some.injEq, Prod.mk.injEq] at h
    obtain ⟨rfl, rfl⟩ := h
    simp [trL, tr] at hx
    subst hx
    exact yields_extern hf h1 h2 h3.1 h3.2 (c := .int .i64 (b.foldl (fun n x => if x == c.toNat.toUInt8 then n + 1 else n) (0 : Nat))) (w' := w) rfl (ppost_same hr rfl)
  · rename_i n
    split at h
    case isFalse => cases h
    rename_i hn
    simp only [Option.some.injEq, Prod.mk.injEq] at h
    obtain ⟨rfl, rfl⟩ := h
    simp [trL, tr] at hx
    subst hx
    obtain ⟨ps, r, g1, g2, g3⟩ := h3
    obtain ⟨n, rfl⟩ := Int.eq_ofNat_of_zero_le hn.1
    obtain ⟨arr, k1, k2, _⟩ := Lib.run_makeNoZero (P := P) w ps r t g3 n (by have := hn.2; unfold room at this; omega)
    obtain ⟨h4, h5⟩ := hr.drew.drew.alloc ⟨[], 1, true, t⟩ arr arr.size (by simp [trL]) (by simp) (fun _ => by simp)
    refine yields_extern hf h1 h2 g1 g2 (c := _) (w' := _) k1 ⟨_, Ext.push h5, ?_, h4, (Below.refl w.heap.size w).drew.drew.alloc (Nat.le_refl _) _⟩
    simp only [tr, trA, trC, Mu.set_same, Option.map_some, Option.bind_some]
    rw [if_neg (by omega)]
    simp
  · cases h
def primsOf : List (FuncId × Prim × TypeId) → FuncId → List Value → St → Option (Value × List Blk)
  | [], _, _, _ => none
  | (g, k, t) :: r, f, xs, s => if Nat.beq f g then primA k t xs s else primsOf r f xs s
def AllPrims (P : Program) : List (FuncId × Prim × TypeId) → Prop
  | [] => True
  | (g, k, t) :: r => PrimFact P g k t ∧ AllPrims P r
theorem primsOf_ok : ∀ (l : List (FuncId × Prim × TypeId)), AllPrims P l → ∀ w0, PrimsOK P (primsOf l) w0
  | [], _, _ => fun f xs s v bs h => by simp [primsOf] at h
  | (g, k, t) :: r, hl, w0 => fun f xs s v bs h G μ w cs hG hr hx => by
    simp only [primsOf] at h
    split at h
    · rename_i hfg
      have := nbeq.1 hfg
      subst this
      exact prim_ok hl.1 h hr hx
    · exact primsOf_ok r hl.2 w0 f xs s v bs h G μ w cs hG hr hx
end Go.Itp
/-
  The interpreter's equations, for computing with unknowns.
-/
namespace Go.Itp

theorem fget_nil (i : Nat) : fget [] i = none := rfl
theorem fget_hit (i : Nat) (v : Value) (r : Fr) : fget ((i, v) :: r) i = some v := by simp [fget]
theorem fget_cons' (i j : Nat) (v : Value) (r : Fr) : fget ((j, v) :: r) i = if i = j then some v else fget r i := by
  simp only [fget]
  by_cases h : i = j
  · rw [if_pos (nbeq.2 h), if_pos h]
  · rw [if_neg (by rw [nbeq]; exact h), if_neg h]
theorem fput_nil (i : Nat) (v : Value) : fput [] i v = [(i, v)] := rfl
theorem fput_cons' (i j : Nat) (u v : Value) (r : Fr) : fput ((j, u) :: r) i v = if i = j then (i, v) :: r else if i < j then (i, v) :: (j, u) :: r else (j, u) :: fput r i v := by
  simp only [fput]
  by_cases h : i = j
  · rw [if_pos (nbeq.2 h), if_pos h]
  · rw [if_neg (by rw [nbeq]; exact h), if_neg h]
    by_cases h2 : i < j
    · rw [if_pos (by rw [Nat.blt_eq]; exact h2), if_pos h2]
    · rw [if_neg (by rw [Nat.blt_eq]; exact h2), if_neg h2]
theorem elemB_nil (i : Nat) : elemB i [] = false := rfl
theorem elemB_cons' (i j : Nat) (r : List Nat) : elemB i (j :: r) = if i = j then true else elemB i r := by
  simp only [elemB]
  by_cases h : i = j
  · rw [if_pos (nbeq.2 h), if_pos h]
  · rw [if_neg (by rw [nbeq]; exact h), if_neg h]
theorem fkeep_nil (ks : List Nat) : fkeep ks [] = [] := rfl
theorem fkeep_cons' (ks : List Nat) (j : Nat) (v : Value) (r : Fr) : fkeep ks ((j, v) :: r) = if elemB j ks = true then (j, v) :: fkeep ks r else fkeep ks r := rfl
/-- what comes behind a part that may end early -/
def thenX (r : Option (Ex × Fr × St)) (k : Fr → St → Option (Ex × Fr × St)) : Option (Ex × Fr × St) :=
  match r with
  | some (.normal, fr, s) => k fr s
  | r => r
theorem thenX_normal (fr : Fr) (s : St) (k) : thenX (some (.normal, fr, s)) k = k fr s := rfl
theorem thenX_exit (i : Nat) (fr : Fr) (s : St) (k) : thenX (some (.exit i, fr, s)) k = some (.exit i, fr, s) := rfl
theorem thenX_ret (fr : Fr) (s : St) (k) : thenX (some (.ret, fr, s)) k = some (.ret, fr, s) := rfl
theorem thenX_none (k) : thenX none k = none := rfl
theorem thenX_ite (c : Prop) [Decidable c] (x y : Option (Ex × Fr × St)) (k) : thenX (if c then x else y) k = if c then thenX x k else thenX y k := by split <;> rfl
def blockX (id : Nat) (r : Option (Ex × Fr × St)) : Option (Ex × Fr × St) :=
  match r with
  | some (.exit i, fr, s) => if i = id then some (.normal, fr, s) else some (.exit i, fr, s)
  | r => r
theorem blockX_normal (id : Nat) (fr : Fr) (s : St) : blockX id (some (.normal, fr, s)) = some (.normal, fr, s) := rfl
theorem blockX_exit (id i : Nat) (fr : Fr) (s : St) : blockX id (some (.exit i, fr, s)) = if i = id then some (.normal, fr, s) else some (.exit i, fr, s) := rfl
theorem blockX_ret (id : Nat) (fr : Fr) (s : St) : blockX id (some (.ret, fr, s)) = some (.ret, fr, s) := rfl
theorem blockX_ite (id : Nat) (c : Prop) [Decidable c] (x y : Option (Ex × Fr × St)) : blockX id (if c then x else y) = if c then blockX id x else blockX id y := by split <;> rfl
section
variable (E : Env)
theorem exec_skip' (fr : Fr) (s : St) : exec E .skip fr s = some (.normal, fr, s) := rfl
theorem exec_ret' (fr : Fr) (s : St) : exec E .ret fr s = some (.ret, fr, s) := rfl
theorem exec_exit' (i : Nat) (fr : Fr) (s : St) : exec E (.exit i) fr s = some (.exit i, fr, s) := rfl
theorem exec_seq' (a b : AC) (fr : Fr) (s : St) : exec E (.seq a b) fr s = thenX (exec E a fr s) (exec E b) := by
  simp only [exec]
  cases exec E a fr s with
  | none => rfl
  | some r => obtain ⟨e, f, t⟩ := r; cases e <;> rfl
def condX (v : Option Value) (x y : Option (Ex × Fr × St)) : Option (Ex × Fr × St) :=
  match v with
  | some (.bool b) => if b then x else y
  | _ => none
theorem exec_cond' (c : Operand) (t e : AC) (fr : Fr) (s : St) : exec E (.cond c t e) fr s = condX (ev fr c) (exec E t fr s) (exec E e fr s) := by
  simp only [exec]
  cases ev fr c with
  | none => rfl
  | some v => cases v <;> rfl
theorem condX_bool (b : Bool) (x y) : condX (some (.bool b)) x y = if b = true then x else y := rfl
theorem exec_block' (id : Nat) (b : AC) (fr : Fr) (s : St) : exec E (.block id b) fr s = blockX id (exec E b fr s) := by
  simp only [exec]
  cases exec E b fr s with
  | none => rfl
  | some r =>
    obtain ⟨e, f, t⟩ := r
    cases e with
    | exit i =>
      simp only [Option.map_some, blockX]
      by_cases h : i = id
      · rw [if_pos (nbeq.2 h), if_pos h]
      · rw [if_neg (by rw [nbeq]; exact h), if_neg h]
    | _ => rfl
/-- operations one behind the other; then the slots that are kept -/
def opsX (E : Env) (l : List AOper) (fr : Fr) (s : St) (k : Fr → St → Option (Ex × Fr × St)) : Option (Ex × Fr × St) := (runOps E l fr s).bind fun r => k r.1 r.2
theorem exec_ops' (l : List AOper) (ks : List Nat) (fr : Fr) (s : St) : exec E (.ops l ks) fr s = opsX E l fr s fun fr s => some (.normal, fkeep ks fr, s) := by
  simp only [exec, opsX]
  cases runOps E l fr s <;> rfl
theorem opsX_nil (fr : Fr) (s : St) (k) : opsX E [] fr s k = k fr s := rfl
def stepX (r : Option (Value × St)) (k : Value → St → Option (Ex × Fr × St)) : Option (Ex × Fr × St) := r.bind fun r => k r.1 r.2
theorem stepX_some (v : Value) (s : St) (k) : stepX (some (v, s)) k = k v s := rfl
theorem opsX_cons (d : Option Nat) (o : AOp) (l : List AOper) (fr : Fr) (s : St) (k) : opsX E (⟨d, none, o⟩ :: l) fr s k = stepX (step E fr s o) fun v s => opsX E l (fputO fr d v) s k := by
  simp only [opsX, runOps, wanted, Option.bind_some, stepX]
  cases step E fr s o <;> rfl
def guardX (v : Option Value) (want : Bool) (x y : Option (Ex × Fr × St)) : Option (Ex × Fr × St) :=
  match v with
  | some (.bool b) => if b = want then x else y
  | some _ => y
  | none => none
theorem opsX_guard (d : Option Nat) (t : Nat) (want : Bool) (o : AOp) (l : List AOper) (fr : Fr) (s : St) (k) :
    opsX E (⟨d, some (t, want), o⟩ :: l) fr s k = guardX (fget fr t) want (stepX (step E fr s o) fun v s => opsX E l (fputO fr d v) s k) (opsX E l (fputO fr d (.tuple #[])) s k) := by
  simp only [opsX, runOps, wanted, stepX]
  cases fget fr t with
  | none => rfl
  | some v =>
    cases v with
    | bool b =>
      simp only [Option.map_some, Option.bind_some, guardX]
      cases b <;> cases want <;> simp <;> (cases step E fr s o <;> rfl)
    | _ => rfl
theorem guardX_bool (b want : Bool) (x y) : guardX (some (.bool b)) want x y = if b = want then x else y := rfl
theorem fputO_some (fr : Fr) (i : Nat) (v : Value) : fputO fr (some i) v = fput fr i v := rfl
theorem fputO_none (fr : Fr) (v : Value) : fputO fr none v = fr := rfl
theorem ev_tmp (fr : Fr) (t : Nat) : ev fr (.tmp t) = fget fr t := rfl
theorem ev_const (fr : Fr) (v : Value) : ev fr (.const v) = some v := rfl
theorem push_nil' (s : St) : s.push [] = s := rfl
/-! single operations -/
section
variable (fr : Fr) (s : St)
theorem step_of_p {o : AOp} {v : Value} {bs : List Blk} (h : pstep E fr s o = some (v, bs)) : step E fr s o = some (v, s.push bs) := by simp [step, h]
theorem step_mov (x : Operand) {v : Value} (h : ev fr x = some v) : step E fr s (.mov x) = some (v, s) := by simp [step, pstep, h, push_nil']
theorem step_bin (op : BinOp) (x y : Operand) {u v r : Value} (h1 : ev fr x = some u) (h2 : ev fr y = some v) (h3 : binA op u v = some r) : step E fr s (.bin op x y) = some (r, s) := by simp [step, pstep, h1, h2, h3, push_nil']
end
end
end Go.Itp
/-
  Walking the interpreter's code with unknowns: a machine with a list of what is still to do, and its equations.
-/
namespace Go.Itp

inductive KF where
  | seq (b : AC)
  | block (id : Nat)

abbrev Res3 := Option (Ex × Fr × St)
def runK (E : Env) : List KF → Ex → Fr → St → Res3
  | [], ex, fr, s => some (ex, fr, s)
  | .seq b :: K, .normal, fr, s => (exec E b fr s).bind fun r => runK E K r.1 r.2.1 r.2.2
  | .seq _ :: K, ex, fr, s => runK E K ex fr s
  | .block id :: K, .exit i, fr, s => if i = id then runK E K .normal fr s else runK E K (.exit i) fr s
  | .block _ :: K, ex, fr, s => runK E K ex fr s
def go (E : Env) (c : AC) (K : List KF) (fr : Fr) (s : St) : Res3 := (exec E c fr s).bind fun r => runK E K r.1 r.2.1 r.2.2
def goO (E : Env) (l : List AOper) (ks : List Nat) (K : List KF) (fr : Fr) (s : St) : Res3 := (runOps E l fr s).bind fun r => runK E K .normal (fkeep ks r.1) r.2
def goV (E : Env) (r : Option (Value × St)) (d : Option Nat) (l : List AOper) (ks : List Nat) (K : List KF) (fr : Fr) : Res3 :=
  r.bind fun r => goO E l ks K (fputO fr d r.1) r.2
def goG (E : Env) (v : Option Value) (want : Bool) (d : Option Nat) (o : AOp) (l : List AOper) (ks : List Nat) (K : List KF) (fr : Fr) (s : St) : Res3 :=
  match v with
  | some (.bool b) => if b == want then goV E (step E fr s o) d l ks K fr else goO E l ks K (fputO fr d (.tuple #[])) s
  | some _ => goO E l ks K (fputO fr d (.tuple #[])) s
  | none => none
def goI (E : Env) (v : Option Value) (t e : AC) (K : List KF) (fr : Fr) (s : St) : Res3 :=
  match v with
  | some (.bool b) => if b then go E t K fr s else go E e K fr s
  | _ => none
def goP (E : Env) (s0 : St) (l : List AOper) (hid : List (List Bool)) (ds : List (Nat × List Blk)) (fr : Fr) (n : Nat) (tail : List AOper) (ks : List Nat) (K : List KF) : Res3 :=
  (runPre E s0 l hid ds fr n).bind fun r => goO E tail ks K r.1 ⟨hiddenHeap s0.heap r.2.1 [], r.2.2, s0.prot⟩
def goPV (E : Env) (r : Option (Value × List Blk)) (d : Option Nat) (s0 : St) (l : List AOper) (hid : List (List Bool)) (ds : List (Nat × List Blk)) (fr : Fr) (n : Nat) (tail : List AOper) (ks : List Nat) (K : List KF) : Res3 :=
  r.bind fun r => goP E s0 l hid ((n, r.2) :: ds) (fputO fr d r.1) (n + r.2.length) tail ks K
def goPG (E : Env) (v : Option Value) (want : Bool) (d : Option Nat) (o : AOp) (f : Fr) (s0 : St) (l : List AOper) (hid : List (List Bool)) (ds : List (Nat × List Blk)) (fr : Fr) (n : Nat) (tail : List AOper) (ks : List Nat) (K : List KF) : Res3 :=
  match v with
  | some (.bool b) => if b == want then goPV E (pstep E f ⟨hiddenHeap s0.heap ds (hid.headD []), n, n⟩ o) d s0 l hid.tail ds fr n tail ks K else goP E s0 l hid.tail ((n, []) :: ds) (fputO fr d (.tuple #[])) n tail ks K
  | some _ => goP E s0 l hid.tail ((n, []) :: ds) (fputO fr d (.tuple #[])) n tail ks K
  | none => none

section
variable {E : Env} {K : List KF} {fr : Fr} {s : St}
theorem exec_go (c : AC) : exec E c fr s = go E c [] fr s := by
  unfold go
  cases exec E c fr s with
  | none => rfl
  | some r => rfl
theorem runK_nil (ex : Ex) : runK E [] ex fr s = some (ex, fr, s) := rfl
theorem runK_seq (b : AC) : runK E (.seq b :: K) .normal fr s = go E b K fr s := rfl
theorem runK_seq_exit (b : AC) (i : Nat) : runK E (.seq b :: K) (.exit i) fr s = runK E K (.exit i) fr s := rfl
theorem runK_seq_ret (b : AC) : runK E (.seq b :: K) .ret fr s = runK E K .ret fr s := rfl
theorem runK_block_normal (i : Nat) : runK E (.block i :: K) .normal fr s = runK E K .normal fr s := rfl
theorem runK_block_exit (i j : Nat) : runK E (.block i :: K) (.exit j) fr s = if j = i then runK E K .normal fr s else runK E K (.exit j) fr s := rfl
theorem runK_block_ret (i : Nat) : runK E (.block i :: K) .ret fr s = runK E K .ret fr s := rfl
theorem go_skip : go E .skip K fr s = runK E K .normal fr s := rfl
theorem go_ret : go E .ret K fr s = runK E K .ret fr s := rfl
theorem go_exit (i : Nat) : go E (.exit i) K fr s = runK E K (.exit i) fr s := rfl
theorem go_seq (a b : AC) : go E (.seq a b) K fr s = go E a (.seq b :: K) fr s := by
  unfold go
  simp only [exec]
  cases exec E a fr s with
  | none => rfl
  | some r =>
    obtain ⟨ex, f, t⟩ := r
    cases ex <;> rfl
theorem go_block (i : Nat) (a : AC) : go E (.block i a) K fr s = go E a (.block i :: K) fr s := by
  unfold go
  simp only [exec]
  cases exec E a fr s with
  | none => rfl
  | some r =>
    obtain ⟨ex, f, t⟩ := r
    cases ex with
    | exit j =>
      simp only [Option.map_some, Option.bind_some, runK]
      by_cases h : j = i
      · rw [if_pos (nbeq.2 h), if_pos h]
      · rw [if_neg (by rw [nbeq]; exact h), if_neg h]
    | normal => rfl
    | ret => rfl
theorem go_ops (l : List AOper) (ks : List Nat) : go E (.ops l ks) K fr s = goO E l ks K fr s := by
  unfold go goO
  simp only [exec]
  cases runOps E l fr s <;> rfl
theorem goO_nil (ks : List Nat) : goO E [] ks K fr s = runK E K .normal (fkeep ks fr) s := rfl
theorem goO_cons (d : Option Nat) (o : AOp) (l : List AOper) (ks : List Nat) : goO E (⟨d, none, o⟩ :: l) ks K fr s = goV E (step E fr s o) d l ks K fr := by
  unfold goO goV
  simp only [runOps, wanted, Option.bind_some]
  cases step E fr s o <;> rfl
theorem goV_some (v : Value) (t : St) (d : Option Nat) (l : List AOper) (ks : List Nat) : goV E (some (v, t)) d l ks K fr = goO E l ks K (fputO fr d v) t := rfl
theorem goO_guard (d : Option Nat) (t : Nat) (want : Bool) (o : AOp) (l : List AOper) (ks : List Nat) : goO E (⟨d, some (t, want), o⟩ :: l) ks K fr s = goG E (fget fr t) want d o l ks K fr s := by
  unfold goO goG
  simp only [runOps, wanted]
  cases fget fr t with
  | none => rfl
  | some v =>
    cases v with
    | bool b =>
      simp only [Option.map_some, Option.bind_some]
      cases h : (b == want)
      · simp [goO]
      · simp only [if_true, goV]
        cases step E fr s o <;> rfl
    | _ => rfl
theorem goG_yes (d : Option Nat) (b : Bool) (o : AOp) (l : List AOper) (ks : List Nat) : goG E (some (.bool b)) b d o l ks K fr s = goV E (step E fr s o) d l ks K fr := by simp [goG]
theorem goG_tf (d : Option Nat) (o : AOp) (l : List AOper) (ks : List Nat) : goG E (some (.bool true)) false d o l ks K fr s = goO E l ks K (fputO fr d (.tuple #[])) s := rfl
theorem goG_ft (d : Option Nat) (o : AOp) (l : List AOper) (ks : List Nat) : goG E (some (.bool false)) true d o l ks K fr s = goO E l ks K (fputO fr d (.tuple #[])) s := rfl
theorem goG_tuple (a : Array Value) (want : Bool) (d : Option Nat) (o : AOp) (l : List AOper) (ks : List Nat) : goG E (some (.tuple a)) want d o l ks K fr s = goO E l ks K (fputO fr d (.tuple #[])) s := rfl
theorem go_cond (c : Operand) (t e : AC) : go E (.cond c t e) K fr s = goI E (ev fr c) t e K fr s := by
  unfold go goI
  simp only [exec]
  cases ev fr c with
  | none => rfl
  | some v =>
    cases v with
    | bool b => cases b <;> rfl
    | _ => rfl
theorem goI_true (t e : AC) : goI E (some (.bool true)) t e K fr s = go E t K fr s := rfl
theorem goI_false (t e : AC) : goI E (some (.bool false)) t e K fr s = go E e K fr s := rfl
theorem go_draw (pre tail : List AOper) (hid : List (List Bool)) (ks : List Nat) : go E (.draw pre tail hid ks) K fr s = goP E s pre hid [] fr s.next tail ks K := by
  unfold go goP goO
  simp only [exec]
  cases runPre E s pre hid [] fr s.next with
  | none => rfl
  | some r =>
    simp only [Option.bind_some]
    cases runOps E tail r.1 _ <;> rfl
theorem goP_nil (s0 : St) (hid : List (List Bool)) (ds : List (Nat × List Blk)) (n : Nat) (tail : List AOper) (ks : List Nat) :
    goP E s0 [] hid ds fr n tail ks K = goO E tail ks K fr ⟨hiddenHeap s0.heap ds [], n, s0.prot⟩ := rfl
theorem goP_cons (d : Option Nat) (o : AOp) (s0 : St) (l : List AOper) (h : List Bool) (hid : List (List Bool)) (ds : List (Nat × List Blk)) (n : Nat) (tail : List AOper) (ks : List Nat) :
    goP E s0 (⟨d, none, o⟩ :: l) (h :: hid) ds fr n tail ks K = goPV E (pstep E (fkeep (slotsL (opdsA o)) fr) ⟨hiddenHeap s0.heap ds h, n, n⟩ o) d s0 l hid ds fr n tail ks K := by
  have e : readsA (⟨d, none, o⟩ : AOper) = slotsL (opdsA o) := by simp [readsA]
  unfold goP goPV
  simp only [runPre, wanted, Option.bind_some, e, List.headD_cons, List.tail_cons]
  cases pstep E (fkeep (slotsL (opdsA o)) fr) ⟨hiddenHeap s0.heap ds h, n, n⟩ o <;> rfl
theorem goPV_some (v : Value) (bs : List Blk) (d : Option Nat) (s0 : St) (l : List AOper) (hid : List (List Bool)) (ds : List (Nat × List Blk)) (n : Nat) (tail : List AOper) (ks : List Nat) :
    goPV E (some (v, bs)) d s0 l hid ds fr n tail ks K = goP E s0 l hid ((n, bs) :: ds) (fputO fr d v) (n + bs.length) tail ks K := rfl
theorem goP_guard (d : Option Nat) (t : Nat) (want : Bool) (o : AOp) (s0 : St) (l : List AOper) (h : List Bool) (hid : List (List Bool)) (ds : List (Nat × List Blk)) (n : Nat) (tail : List AOper) (ks : List Nat) :
    goP E s0 (⟨d, some (t, want), o⟩ :: l) (h :: hid) ds fr n tail ks K = goPG E (fget (fkeep (slotsL (opdsA o) ++ [t]) fr) t) want d o (fkeep (slotsL (opdsA o) ++ [t]) fr) s0 l (h :: hid) ds fr n tail ks K := by
  unfold goP goPG
  simp only [runPre, wanted, readsA, List.headD_cons, List.tail_cons]
  cases fget (fkeep (slotsL (opdsA o) ++ [t]) fr) t with
  | none => rfl
  | some v =>
    cases v with
    | bool b =>
      simp only [Option.map_some, Option.bind_some]
      cases h : (b == want)
      · simp [goP]
      · simp only [if_true, goPV]
        cases pstep E (fkeep (slotsL (opdsA o) ++ [t]) fr) ⟨hiddenHeap s0.heap ds _, n, n⟩ o <;> rfl
    | _ => rfl
theorem goPG_yes (b : Bool) (d : Option Nat) (o : AOp) (f : Fr) (s0 : St) (l : List AOper) (h : List Bool) (hid : List (List Bool)) (ds : List (Nat × List Blk)) (n : Nat) (tail : List AOper) (ks : List Nat) :
    goPG E (some (.bool b)) b d o f s0 l (h :: hid) ds fr n tail ks K = goPV E (pstep E f ⟨hiddenHeap s0.heap ds h, n, n⟩ o) d s0 l hid ds fr n tail ks K := by simp [goPG]
theorem goPG_tuple (a : Array Value) (want : Bool) (d : Option Nat) (o : AOp) (f : Fr) (s0 : St) (l : List AOper) (h : List Bool) (hid : List (List Bool)) (ds : List (Nat × List Blk)) (n : Nat) (tail : List AOper) (ks : List Nat) :
    goPG E (some (.tuple a)) want d o f s0 l (h :: hid) ds fr n tail ks K = goP E s0 l hid ((n, []) :: ds) (fputO fr d (.tuple #[])) n tail ks K := rfl
theorem goPG_tf (d : Option Nat) (o : AOp) (f : Fr) (s0 : St) (l : List AOper) (h : List Bool) (hid : List (List Bool)) (ds : List (Nat × List Blk)) (n : Nat) (tail : List AOper) (ks : List Nat) :
    goPG E (some (.bool true)) false d o f s0 l (h :: hid) ds fr n tail ks K = goP E s0 l hid ((n, []) :: ds) (fputO fr d (.tuple #[])) n tail ks K := rfl
theorem goPG_ft (d : Option Nat) (o : AOp) (f : Fr) (s0 : St) (l : List AOper) (h : List Bool) (hid : List (List Bool)) (ds : List (Nat × List Blk)) (n : Nat) (tail : List AOper) (ks : List Nat) :
    goPG E (some (.bool false)) true d o f s0 l (h :: hid) ds fr n tail ks K = goP E s0 l hid ((n, []) :: ds) (fputO fr d (.tuple #[])) n tail ks K := rfl
end

/-! ### what a run does -/
def Does (r : Res3) (P : Ex → Fr → St → Prop) : Prop := ∃ ex fr s, r = some (ex, fr, s) ∧ P ex fr s
theorem does_some (ex : Ex) (fr : Fr) (s : St) (P) : Does (some (ex, fr, s)) P = P ex fr s := by
  apply propext
  constructor
  · rintro ⟨_, _, _, h, p⟩
    cases h
    exact p
  · intro p
    exact ⟨_, _, _, rfl, p⟩
theorem Does.mono {r : Res3} {P Q : Ex → Fr → St → Prop} (h : Does r P) (hq : ∀ ex fr s, P ex fr s → Q ex fr s) : Does r Q := by
  obtain ⟨ex, fr, s, e, p⟩ := h
  exact ⟨ex, fr, s, e, hq _ _ _ p⟩
/-- the end of a round: either there is a next one, with less to do, or the loop is left -/
def LoopP (I : Nat → Fr → St → Prop) (m : Nat) (Qe : Nat → Fr → St → Prop) (Qr : Fr → St → Prop) : Ex → Fr → St → Prop
  | .normal, fr, s => ∃ m', m' < m ∧ I m' fr s
  | .exit i, fr, s => Qe i fr s
  | .ret, fr, s => Qr fr s
theorem loopP_normal (I m Qe Qr fr s) : LoopP I m Qe Qr .normal fr s = ∃ m', m' < m ∧ I m' fr s := rfl
theorem loopP_exit (I m Qe Qr i fr s) : LoopP I m Qe Qr (.exit i) fr s = Qe i fr s := rfl
theorem loopP_ret (I m Qe Qr fr s) : LoopP I m Qe Qr .ret fr s = Qr fr s := rfl
def LoopE (Qe : Nat → Fr → St → Prop) (Qr : Fr → St → Prop) : Ex → Fr → St → Prop
  | .normal, _, _ => False
  | .exit i, fr, s => Qe i fr s
  | .ret, fr, s => Qr fr s
theorem does_iter {f : Fr → St → Res3} {I : Nat → Fr → St → Prop} {Qe : Nat → Fr → St → Prop} {Qr : Fr → St → Prop} (h : ∀ m fr s, I m fr s → Does (f fr s) (LoopP I m Qe Qr)) :
    ∀ N m fr s, I m fr s → m < N → Does (iter f N fr s) (LoopE Qe Qr)
  | 0, m, fr, s, hi, hm => absurd hm (Nat.not_lt_zero _)
  | N + 1, m, fr, s, hi, hm => by
    obtain ⟨ex, fr1, s1, e, p⟩ := h m fr s hi
    simp only [iter, e]
    cases ex with
    | normal =>
      obtain ⟨m', hlt, hi'⟩ := p
      exact does_iter h N m' fr1 s1 hi' (by omega)
    | exit i => rw [does_some]; exact p
    | ret => rw [does_some]; exact p
/-- the rule of a loop -/
theorem does_loop {E : Env} {b : AC} {ks : List Nat} {K : List KF} {P : Ex → Fr → St → Prop} (I : Nat → Fr → St → Prop) (Qe : Nat → Fr → St → Prop) (Qr : Fr → St → Prop) {fr : Fr} {s : St} {m : Nat} (hi : I m fr s) (hm : m < E.rounds)
    (hround : ∀ m fr s, I m fr s → Does (go E b [] (fkeep ks fr) s) (LoopP I m Qe Qr))
    (hexit : ∀ i fr s, Qe i fr s → Does (runK E K (.exit i) fr s) P) (hret : ∀ fr s, Qr fr s → Does (runK E K .ret fr s) P) : Does (go E (.loop ks b) K fr s) P := by
  have h := does_iter (f := fun fr s => exec E b (fkeep ks fr) s) (I := I) (Qe := Qe) (Qr := Qr) (fun m fr s hi => by rw [exec_go]; exact hround m fr s hi) E.rounds m fr s hi hm
  obtain ⟨ex, fr1, s1, e, q⟩ := h
  unfold go
  simp only [exec, e, Option.bind_some]
  cases ex with
  | normal => exact q.elim
  | exit i => exact hexit i fr1 s1 q
  | ret => exact hret fr1 s1 q
def ContE (E : Env) (K : List KF) (P : Ex → Fr → St → Prop) (i : Nat) (fr : Fr) (s : St) : Prop := Does (runK E K (.exit i) fr s) P
def ContR (E : Env) (K : List KF) (P : Ex → Fr → St → Prop) (fr : Fr) (s : St) : Prop := Does (runK E K .ret fr s) P
theorem contE_eq (E : Env) (K : List KF) (P : Ex → Fr → St → Prop) (i : Nat) (fr : Fr) (s : St) : ContE E K P i fr s = Does (runK E K (.exit i) fr s) P := rfl
theorem contR_eq (E : Env) (K : List KF) (P : Ex → Fr → St → Prop) (fr : Fr) (s : St) : ContR E K P fr s = Does (runK E K .ret fr s) P := rfl
/-- the rule of a loop, where what comes behind is walked in the round that leaves it -/
theorem does_while {E : Env} {b : AC} {ks : List Nat} {K : List KF} {P : Ex → Fr → St → Prop} (I : Nat → Fr → St → Prop) {fr : Fr} {s : St} {m : Nat} (hi : I m fr s) (hm : m < E.rounds)
    (hround : ∀ m fr s, I m fr s → Does (go E b [] (fkeep ks fr) s) (LoopP I m (ContE E K P) (ContR E K P))) : Does (go E (.loop ks b) K fr s) P :=
  does_loop I _ _ hi hm hround (fun _ _ _ h => h) (fun _ _ h => h)
end Go.Itp
/-
  The operations' equations, for computing with unknowns.
-/
namespace Go.Itp

def op1 {α β : Type} (f : α → Option β) (a : Option α) : Option β := a.bind f
def op2 {α β γ : Type} (f : α → β → Option γ) (a : Option α) (b : Option β) : Option γ := a.bind fun x => b.bind fun y => f x y
theorem op1_some {α β : Type} (f : α → Option β) (a : α) : op1 f (some a) = f a := rfl
theorem op2_some {α β γ : Type} (f : α → β → Option γ) (a : α) (b : β) : op2 f (some a) (some b) = f a b := rfl
/-- what an operation leaves that makes no memory -/
def ret1 (s : St) (o : Option Value) : Option (Value × St) := o.map (·, s)
def retP (o : Option Value) : Option (Value × List Blk) := o.map (·, [])
def retB (s : St) (o : Option (Value × List Blk)) : Option (Value × St) := o.map fun r => (r.1, s.push r.2)
theorem ret1_some (s : St) (v : Value) : ret1 s (some v) = some (v, s) := rfl
theorem retP_some (v : Value) : retP (some v) = some (v, []) := rfl
theorem retB_some (s : St) (v : Value) (bs : List Blk) : retB s (some (v, bs)) = some (v, s.push bs) := rfl
theorem push_eq (s : St) (bs : List Blk) : s.push bs = ⟨hpush s.heap s.next bs, s.next + bs.length, s.prot⟩ := rfl

def pickX : Option Value → Option Value → Option Value → Option Value
  | some (.bool t), a, b => if t then a else b
  | _, _, _ => none
theorem pickX_true (a b : Option Value) : pickX (some (.bool true)) a b = a := rfl
theorem pickX_false (a b : Option Value) : pickX (some (.bool false)) a b = b := rfl
def loadA (E : Env) (h : Heap) (g : Option Nat) : Value → Option Value
  | .pointer (some a) => loadG E h a g
  | _ => none
def nilChkA : Value → Option Value
  | .pointer (some a) => some (.pointer (some a))
  | .func (.func f) x y => some (.func (.func f) x y)
  | .iface t v => some (.iface t v)
  | _ => none
def eqBA (neg : Bool) : Value → Value → Option Value
  | .bool a, .bool b => some (.bool (if neg then !(a == b) else a == b))
  | _, _ => none
def eqNilA (k : Nat) (neg : Bool) (a b : Value) : Option Value :=
  (isNilA k a).bind fun p => (isNilA k b).bind fun q => if p || q then some (.bool (if neg then !(p && q) else p && q)) else none
def convIA (k : IntKind) : Value → Option Value
  | .int _ n => some (.int k (k.wrap n))
  | _ => none
def convSA : Value → Option Value
  | .string b => some (.string b)
  | _ => none
def b2sA (E : Env) (h : Heap) : Value → Option Value
  | .slice none _ _ => some (.string .empty)
  | .slice (some a) n _ => (aloadN E h a n).bind fun cs => (bytesOf cs).map fun bs => .string ⟨bs.toArray⟩
  | _ => none
def mkSliceA (nx : Nat) (t : TypeId) (e b : Nat) (z : List Value) : Value → Value → Option (Value × List Blk)
  | .int _ l, .int _ c => if 0 ≤ l ∧ l ≤ c ∧ c * b ≤ room ∧ c ≤ room then some (.slice (some ⟨nx, 0, some 0⟩) l.toNat c.toNat, [⟨rep z c.toNat, e, false, t⟩]) else none
  | _, _ => none
def slcSA (lo hi : Option Value) : Value → Option Value
  | .string t => (bndNat hi t.size t.size).bind fun h => (bndNat lo 0 h).map fun l => .string (t.extract l h)
  | _ => none
def slcA' (e : Nat) (lo hi mx : Option Value) : Value → Option Value
  | .slice a n c => slcA e a n c lo hi mx
  | _ => none
def slcAA (n e : Nat) (lo hi : Option Value) : Value → Option Value
  | .pointer (some a) => if Nat.blt n big then slcA e (some a) n n lo hi none else none
  | _ => none
def fldAA (o : Nat) : Value → Option Value
  | .pointer (some a) => some (.pointer (some (aadd a o)))
  | _ => none
def fldVA (o : Nat) (n : Option Nat) : Value → Option Value
  | .agg cs => match n with
      | none => lget cs.toList o
      | some n => (ltake (cs.toList.drop o) n).map fun l => .agg l.toArray
  | _ => none
def idxSA (e : Nat) : Value → Value → Option Value
  | .slice (some a) n _, i => (idxNat i n).map fun i => .pointer (some (aadd a (i * e)))
  | _, _ => none
def idxAA (n e : Nat) : Value → Value → Option Value
  | .pointer (some a), i => (idxNat i n).map fun i => .pointer (some (aadd a (i * e)))
  | _, _ => none
def idxStrA : Value → Value → Option Value
  | .string t, i => (idxNat i t.size).bind fun i => (lget t.data.toList i).map fun b => .int .u8 b.toNat
  | _, _ => none
def idxVA (n e : Nat) (g : Option Nat) : Value → Value → Option Value
  | .agg cs, i => (idxNat i n).bind fun i => match g with
      | none => lget cs.toList (i * e)
      | some m => (ltake (cs.toList.drop (i * e)) m).map fun l => .agg l.toArray
  | _, _ => none
def extA (i : Nat) : Value → Option Value
  | .tuple vs => lget vs.toList i
  | _ => none
def lenX (t : Bool) : Value → Option Value
  | .slice _ n _ => if t then none else some (.int .i64 n)
  | .complex _ _ _ => if t then none else some (.int .i64 0)
  | .string b => if t then some (.int .i64 b.size) else none
  | _ => none
def mmA (g : Bool) : Value → Value → Option Value
  | .int k a, .int _ b => some (.int k (if g then (if b > a then b else a) else if b < a then b else a))
  | _, _ => none
def buildA (z : List Value) (ps : List (Nat × Nat × Value)) : Option Value := (fillA z ps).map fun cs => .agg cs.toArray
def mkRowA (nx : Nat) (t : TypeId) (e n : Nat) (z : List Value) (ps : List (Nat × Nat × Value)) : Option (Value × List Blk) :=
  (fillA (rep z n) ps).map fun cs => (.slice (some ⟨nx, 0, some 0⟩) n n, [⟨cs, e, false, t⟩])
def capA : Value → Option Value
  | .slice _ _ c => if Nat.blt c big then some (.int .i64 c) else none
  | _ => none
/-- a call: of a function that writes nothing, else of one that may -/
def callR (s : St) (p : Option (Value × List Blk)) (w : Option (Value × St)) : Option (Value × St) :=
  match p with
  | some r => some (r.1, s.push r.2)
  | none => w
theorem callR_some (s : St) (v : Value) (bs : List Blk) (w : Option (Value × St)) : callR s (some (v, bs)) w = some (v, s.push bs) := rfl
theorem callR_none (s : St) (w : Option (Value × St)) : callR s none w = w := rfl
def callX (E : Env) (s : St) (f : FuncId) (o : Option (List Value)) : Option (Value × St) :=
  match o with
  | some xs => callR s (E.pcall f xs s) (E.wcall f xs s)
  | none => none
theorem callX_some (E : Env) (s : St) (f : FuncId) (xs : List Value) : callX E s f (some xs) = callR s (E.pcall f xs s) (E.wcall f xs s) := rfl
def callY (E : Env) (s : St) (v : Option Value) (o : Option (List Value)) : Option (Value × St) :=
  match v, o with
  | some v, some xs => match closeFn v xs with
      | some (f, xs) => callR s (E.pcall f xs s) (E.wcall f xs s)
      | none => none
  | _, _ => none
theorem callY_some (E : Env) (s : St) (f : FuncId) (a b : Array Value) (xs : List Value) :
    callY E s (some (.func (.func f) a b)) (some xs) = callR s (E.pcall f (a.toList ++ xs ++ b.toList) s) (E.wcall f (a.toList ++ xs ++ b.toList) s) := rfl
def appX (E : Env) (s : St) (t : TypeId) (e b : Nat) (x y : Value) : Option (Value × St) :=
  match appP E s t e b x y with
  | some r => some (r.1, s.push r.2)
  | none => appA E s t e b x y
def storeA (s : St) (n : Nat) : Value → Value → Option (Value × St)
  | .pointer (some a), v => if Nat.beq v.cells.toList.length n then (astore s a v.cells.toList).map (.tuple #[], ·) else none
  | _, _ => none
def copyA (E : Env) (s : St) (e : Nat) : Value → Value → Option (Value × St)
  | .slice a n _, x => (lenA x).bind fun m => (srcCells E s.heap e (Nat.min m n) x).bind fun cs =>
      match a with
      | some a => (astore s a cs).map (.int .i64 (Nat.min m n), ·)
      | none => some (.int .i64 (Nat.min m n), s)
  | _, _ => none

section
variable (E : Env) (fr : Fr) (s : St)
theorem step_eq (o : AOp) (q : Option Value) (hp : pstep E fr s o = retP q) (hw : wstep E fr s o = none) : step E fr s o = ret1 s q := by
  unfold step
  rw [hp, hw]
  cases q <;> rfl
theorem step_eqB (o : AOp) (q : Option (Value × List Blk)) (hp : pstep E fr s o = q) (hw : wstep E fr s o = none) : step E fr s o = retB s q := by
  unfold step
  rw [hp, hw]
  cases q <;> rfl
theorem q_mov (x : Operand) : pstep E fr s (.mov x) = retP (ev fr x) := rfl
theorem q_pick (c a b : Operand) : pstep E fr s (.pick c a b) = retP (pickX (ev fr c) (ev fr a) (ev fr b)) := by
  simp only [pstep]
  cases ev fr c with
  | none => rfl
  | some v =>
    cases v with
    | bool t => cases t <;> rfl
    | _ => rfl
theorem q_alloc (t : TypeId) (z : List (Nat × Value)) : pstep E fr s (.alloc t z) = some (.pointer (some ⟨s.next, 0, some 0⟩), [⟨expand z, 1, false, t⟩]) := rfl
def boxA (nx : Nat) (t : TypeId) (v : Value) : Option (Value × List Blk) := some (.pointer (some ⟨nx, 0, some 0⟩), [⟨v.cells.toList, 1, false, t⟩])
theorem q_box (t : TypeId) (x : Operand) : pstep E fr s (.box t x) = op1 (boxA s.next t) (ev fr x) := rfl
theorem q_build (z : List Value) (ps : List (Nat × Nat × Operand)) : pstep E fr s (.build z ps) = retP (op1 (buildA z) (evParts fr ps)) := by
  simp only [pstep, op1]
  cases evParts fr ps with
  | none => rfl
  | some l => simp only [Option.bind_some, buildA]; cases fillA z l <;> rfl
theorem q_mkRow (t : TypeId) (e n : Nat) (z : List Value) (ps : List (Nat × Nat × Operand)) : pstep E fr s (.mkRow t e n z ps) = op1 (mkRowA s.next t e n z) (evParts fr ps) := rfl
theorem q_load (g : Option Nat) (a : Operand) : pstep E fr s (.load g a) = retP (op1 (loadA E s.heap g) (ev fr a)) := by
  simp only [pstep, op1]
  cases ev fr a with
  | none => rfl
  | some v =>
    cases v with
    | pointer p => cases p <;> rfl
    | _ => rfl
theorem q_nilChk (x : Operand) : pstep E fr s (.nilChk x) = retP (op1 nilChkA (ev fr x)) := by
  simp only [pstep, op1]
  cases ev fr x with
  | none => rfl
  | some v =>
    cases v with
    | pointer p => cases p <;> rfl
    | func f a b => cases f <;> rfl
    | _ => rfl
theorem q_bin (op : BinOp) (x y : Operand) : pstep E fr s (.bin op x y) = retP (op2 (binA op) (ev fr x) (ev fr y)) := by
  simp only [pstep, op2]
  cases ev fr x <;> cases ev fr y <;> rfl
theorem q_eqB (neg : Bool) (x y : Operand) : pstep E fr s (.eqB neg x y) = retP (op2 (eqBA neg) (ev fr x) (ev fr y)) := by
  simp only [pstep, op2]
  cases ev fr x with
  | none => rfl
  | some u =>
    cases ev fr y with
    | none => rfl
    | some v => cases u <;> cases v <;> rfl
theorem q_eqNil (k : Nat) (neg : Bool) (x y : Operand) : pstep E fr s (.eqNil k neg x y) = retP (op2 (eqNilA k neg) (ev fr x) (ev fr y)) := by
  simp only [pstep, op2, eqNilA]
  cases ev fr x with
  | none => rfl
  | some u =>
    cases ev fr y with
    | none => rfl
    | some v =>
      simp only [Option.bind_some]
      cases isNilA k u with
      | none => rfl
      | some p =>
        cases isNilA k v with
        | none => rfl
        | some q => cases p <;> cases q <;> rfl
theorem q_un (op : UnOp) (x : Operand) : pstep E fr s (.un op x) = retP (op1 (unA op) (ev fr x)) := by
  simp only [pstep, op1]
  cases ev fr x <;> rfl
theorem q_convI (k : IntKind) (x : Operand) : pstep E fr s (.convI k x) = retP (op1 (convIA k) (ev fr x)) := by
  simp only [pstep, op1]
  cases ev fr x with
  | none => rfl
  | some v => cases v <;> rfl
theorem q_convS (x : Operand) : pstep E fr s (.convS x) = retP (op1 convSA (ev fr x)) := by
  simp only [pstep, op1]
  cases ev fr x with
  | none => rfl
  | some v => cases v <;> rfl
theorem q_b2s (x : Operand) : pstep E fr s (.b2s x) = retP (op1 (b2sA E s.heap) (ev fr x)) := by
  simp only [pstep, op1]
  cases ev fr x with
  | none => rfl
  | some v =>
    cases v with
    | slice a n c =>
      cases a with
      | none => rfl
      | some a =>
        simp only [Option.bind_some, b2sA]
        cases aloadN E s.heap a n with
        | none => rfl
        | some cs => simp only [Option.bind_some]; cases bytesOf cs <;> rfl
    | _ => rfl
theorem q_mkSlice (t : TypeId) (e b : Nat) (z : List Value) (l c : Operand) : pstep E fr s (.mkSlice t e b z l c) = op2 (mkSliceA s.next t e b z) (ev fr l) (ev fr c) := by
  simp only [pstep, op2]
  cases ev fr l with
  | none => rfl
  | some u =>
    cases ev fr c with
    | none => rfl
    | some v => cases u <;> cases v <;> rfl
def slcSX (x : Option Value) (lo hi : Option (Option Value)) : Option Value :=
  match x, lo, hi with
  | some x, some lo, some hi => slcSA lo hi x
  | _, _, _ => none
theorem slcSX_some (x : Value) (lo hi : Option Value) : slcSX (some x) (some lo) (some hi) = slcSA lo hi x := rfl
theorem q_slcS (x : Operand) (lo hi : Option Operand) : pstep E fr s (.slcS x lo hi) = retP (slcSX (ev fr x) (evO fr lo) (evO fr hi)) := by
  simp only [pstep]
  cases ev fr x with
  | none => rfl
  | some x =>
    cases evO fr lo with
    | none => rfl
    | some lo =>
      cases evO fr hi with
      | none => rfl
      | some hi =>
        cases x with
        | string t =>
          simp only [Option.bind_some, slcSX, slcSA]
          cases bndNat hi t.size t.size with
          | none => rfl
          | some h => simp only [Option.bind_some]; cases bndNat lo 0 h <;> rfl
        | _ => rfl
def slcX (e : Nat) (x : Option Value) (lo hi mx : Option (Option Value)) : Option Value :=
  match x, lo, hi, mx with
  | some x, some lo, some hi, some mx => slcA' e lo hi mx x
  | _, _, _, _ => none
theorem slcX_some (e : Nat) (x : Value) (lo hi mx : Option Value) : slcX e (some x) (some lo) (some hi) (some mx) = slcA' e lo hi mx x := rfl
theorem q_slc (e : Nat) (x : Operand) (lo hi mx : Option Operand) : pstep E fr s (.slc e x lo hi mx) = retP (slcX e (ev fr x) (evO fr lo) (evO fr hi) (evO fr mx)) := by
  simp only [pstep]
  cases ev fr x with
  | none => rfl
  | some x =>
    cases evO fr lo with
    | none => rfl
    | some lo =>
      cases evO fr hi with
      | none => rfl
      | some hi =>
        cases evO fr mx with
        | none => rfl
        | some mx => cases x <;> rfl
def slcAX (n e : Nat) (x : Option Value) (lo hi : Option (Option Value)) : Option Value :=
  match x, lo, hi with
  | some x, some lo, some hi => slcAA n e lo hi x
  | _, _, _ => none
theorem slcAX_some (n e : Nat) (x : Value) (lo hi : Option Value) : slcAX n e (some x) (some lo) (some hi) = slcAA n e lo hi x := rfl
theorem q_slcA (n e : Nat) (x : Operand) (lo hi : Option Operand) : pstep E fr s (.slcA n e x lo hi) = retP (slcAX n e (ev fr x) (evO fr lo) (evO fr hi)) := by
  simp only [pstep]
  cases ev fr x with
  | none => rfl
  | some x =>
    cases evO fr lo with
    | none => rfl
    | some lo =>
      cases evO fr hi with
      | none => rfl
      | some hi =>
        cases x with
        | pointer a =>
          cases a with
          | none => rfl
          | some a =>
            simp only [Option.bind_some, slcAX, slcAA]
            split <;> rfl
        | _ => rfl
theorem q_fldA (o : Nat) (x : Operand) : pstep E fr s (.fldA o x) = retP (op1 (fldAA o) (ev fr x)) := by
  simp only [pstep, op1]
  cases ev fr x with
  | none => rfl
  | some v =>
    cases v with
    | pointer p => cases p <;> rfl
    | _ => rfl
theorem q_fldV (o : Nat) (n : Option Nat) (x : Operand) : pstep E fr s (.fldV o n x) = retP (op1 (fldVA o n) (ev fr x)) := by
  simp only [pstep, op1]
  cases ev fr x with
  | none => rfl
  | some v =>
    cases v with
    | agg cs =>
      cases n with
      | none => rfl
      | some n => simp only [Option.bind_some, fldVA]; cases ltake (cs.toList.drop o) n <;> rfl
    | _ => rfl
theorem q_idxS (e : Nat) (x i : Operand) : pstep E fr s (.idxS e x i) = retP (op2 (idxSA e) (ev fr x) (ev fr i)) := by
  simp only [pstep, op2]
  cases ev fr x with
  | none => rfl
  | some u =>
    cases ev fr i with
    | none => rfl
    | some v =>
      cases u with
      | slice a n c =>
        cases a with
        | none => rfl
        | some a => simp only [Option.bind_some, idxSA]; cases idxNat v n <;> rfl
      | _ => rfl
theorem q_idxA (n e : Nat) (x i : Operand) : pstep E fr s (.idxA n e x i) = retP (op2 (idxAA n e) (ev fr x) (ev fr i)) := by
  simp only [pstep, op2]
  cases ev fr x with
  | none => rfl
  | some u =>
    cases ev fr i with
    | none => rfl
    | some v =>
      cases u with
      | pointer a =>
        cases a with
        | none => rfl
        | some a => simp only [Option.bind_some, idxAA]; cases idxNat v n <;> rfl
      | _ => rfl
theorem q_idxStr (x i : Operand) : pstep E fr s (.idxStr x i) = retP (op2 idxStrA (ev fr x) (ev fr i)) := by
  simp only [pstep, op2]
  cases ev fr x with
  | none => rfl
  | some u =>
    cases ev fr i with
    | none => rfl
    | some v =>
      cases u with
      | string t =>
        simp only [Option.bind_some, idxStrA]
        cases idxNat v t.size with
        | none => rfl
        | some i => simp only [Option.bind_some]; cases lget t.data.toList i <;> rfl
      | _ => rfl
theorem q_idxV (n e : Nat) (g : Option Nat) (x i : Operand) : pstep E fr s (.idxV n e g x i) = retP (op2 (idxVA n e g) (ev fr x) (ev fr i)) := by
  simp only [pstep, op2]
  cases ev fr x with
  | none => rfl
  | some u =>
    cases ev fr i with
    | none => rfl
    | some v =>
      cases u with
      | agg cs =>
        simp only [Option.bind_some, idxVA]
        cases idxNat v n with
        | none => rfl
        | some i =>
          cases g with
          | none => rfl
          | some m => simp only [Option.bind_some]; cases ltake (cs.toList.drop (i * e)) m <;> rfl
      | _ => rfl
theorem q_ext (x : Operand) (i : Nat) : pstep E fr s (.ext x i) = retP (op1 (extA i) (ev fr x)) := by
  simp only [pstep, op1]
  cases ev fr x with
  | none => rfl
  | some v => cases v <;> rfl
def mkFnA (f : FuncId) (a b : List Value) : Option Value := some (.func (.func f) a.toArray b.toArray)
theorem q_mkFn (f : FuncId) (a b : List Operand) : pstep E fr s (.mkFn f a b) = retP (op2 (mkFnA f) (evs fr a) (evs fr b)) := by
  simp only [pstep, op2]
  cases evs fr a <;> cases evs fr b <;> rfl
def mkIfA (t : TypeId) (v : Value) : Option Value := some (.iface t v)
theorem q_mkIf (t : TypeId) (x : Operand) : pstep E fr s (.mkIf t x) = retP (op1 (mkIfA t) (ev fr x)) := by
  simp only [pstep, op1]
  cases ev fr x <;> rfl
theorem q_len (t : Bool) (x : Operand) : pstep E fr s (.len t x) = retP (op1 (lenX t) (ev fr x)) := by
  simp only [pstep, op1]
  cases ev fr x with
  | none => rfl
  | some v => cases v <;> cases t <;> rfl
theorem q_mm (g : Bool) (x y : Operand) : pstep E fr s (.mm g x y) = retP (op2 (mmA g) (ev fr x) (ev fr y)) := by
  simp only [pstep, op2]
  cases ev fr x with
  | none => rfl
  | some u =>
    cases ev fr y with
    | none => rfl
    | some v => cases u <;> cases v <;> rfl
theorem q_callF (f : FuncId) (xs : List Operand) : pstep E fr s (.callF f xs) = op1 (fun xs => E.pcall f xs s) (evs fr xs) := rfl
theorem q_cap (x : Operand) : pstep E fr s (.cap x) = retP (op1 capA (ev fr x)) := by
  simp only [pstep, op1]
  cases ev fr x with
  | none => rfl
  | some v =>
    cases v with
    | slice a n c => simp only [Option.bind_some, capA]; split <;> rfl
    | _ => rfl
def eqIfX (neg lit : Bool) (ts : List TypeId) (a b : Value) : Option Value := (eqIfA lit ts a b).map fun r => .bool (if neg then !r else r)
theorem q_eqIf (neg lit : Bool) (ts : List TypeId) (x y : Operand) : pstep E fr s (.eqIf neg lit ts x y) = retP (op2 (eqIfX neg lit ts) (ev fr x) (ev fr y)) := by
  simp only [pstep, op2]
  cases ev fr x with
  | none => rfl
  | some u =>
    cases ev fr y with
    | none => rfl
    | some v => simp only [Option.bind_some, eqIfX]; cases eqIfA lit ts u v <;> rfl
theorem s_mov (x : Operand) : step E fr s (.mov x) = ret1 s (ev fr x) := step_eq E fr s _ _ (q_mov ..) rfl
theorem s_pick (c a b : Operand) : step E fr s (.pick c a b) = ret1 s (pickX (ev fr c) (ev fr a) (ev fr b)) := step_eq E fr s _ _ (q_pick ..) rfl
theorem s_alloc (t : TypeId) (z : List (Nat × Value)) : step E fr s (.alloc t z) = some (.pointer (some ⟨s.next, 0, some 0⟩), s.push [⟨expand z, 1, false, t⟩]) := rfl
theorem s_box (t : TypeId) (x : Operand) : step E fr s (.box t x) = retB s (op1 (boxA s.next t) (ev fr x)) := step_eqB E fr s _ _ (q_box ..) rfl
theorem s_build (z : List Value) (ps : List (Nat × Nat × Operand)) : step E fr s (.build z ps) = ret1 s (op1 (buildA z) (evParts fr ps)) := step_eq E fr s _ _ (q_build ..) rfl
theorem s_mkRow (t : TypeId) (e n : Nat) (z : List Value) (ps : List (Nat × Nat × Operand)) : step E fr s (.mkRow t e n z ps) = retB s (op1 (mkRowA s.next t e n z) (evParts fr ps)) := step_eqB E fr s _ _ (q_mkRow ..) rfl
theorem s_load (g : Option Nat) (a : Operand) : step E fr s (.load g a) = ret1 s (op1 (loadA E s.heap g) (ev fr a)) := step_eq E fr s _ _ (q_load ..) rfl
theorem s_nilChk (x : Operand) : step E fr s (.nilChk x) = ret1 s (op1 nilChkA (ev fr x)) := step_eq E fr s _ _ (q_nilChk ..) rfl
theorem s_bin (op : BinOp) (x y : Operand) : step E fr s (.bin op x y) = ret1 s (op2 (binA op) (ev fr x) (ev fr y)) := step_eq E fr s _ _ (q_bin ..) rfl
theorem s_eqB (neg : Bool) (x y : Operand) : step E fr s (.eqB neg x y) = ret1 s (op2 (eqBA neg) (ev fr x) (ev fr y)) := step_eq E fr s _ _ (q_eqB ..) rfl
theorem s_eqNil (k : Nat) (neg : Bool) (x y : Operand) : step E fr s (.eqNil k neg x y) = ret1 s (op2 (eqNilA k neg) (ev fr x) (ev fr y)) := step_eq E fr s _ _ (q_eqNil ..) rfl
theorem s_un (op : UnOp) (x : Operand) : step E fr s (.un op x) = ret1 s (op1 (unA op) (ev fr x)) := step_eq E fr s _ _ (q_un ..) rfl
theorem s_convI (k : IntKind) (x : Operand) : step E fr s (.convI k x) = ret1 s (op1 (convIA k) (ev fr x)) := step_eq E fr s _ _ (q_convI ..) rfl
theorem s_convS (x : Operand) : step E fr s (.convS x) = ret1 s (op1 convSA (ev fr x)) := step_eq E fr s _ _ (q_convS ..) rfl
theorem s_b2s (x : Operand) : step E fr s (.b2s x) = ret1 s (op1 (b2sA E s.heap) (ev fr x)) := step_eq E fr s _ _ (q_b2s ..) rfl
theorem s_mkSlice (t : TypeId) (e b : Nat) (z : List Value) (l c : Operand) : step E fr s (.mkSlice t e b z l c) = retB s (op2 (mkSliceA s.next t e b z) (ev fr l) (ev fr c)) := step_eqB E fr s _ _ (q_mkSlice ..) rfl
theorem s_slcS (x : Operand) (lo hi : Option Operand) : step E fr s (.slcS x lo hi) = ret1 s (slcSX (ev fr x) (evO fr lo) (evO fr hi)) := step_eq E fr s _ _ (q_slcS ..) rfl
theorem s_slc (e : Nat) (x : Operand) (lo hi mx : Option Operand) : step E fr s (.slc e x lo hi mx) = ret1 s (slcX e (ev fr x) (evO fr lo) (evO fr hi) (evO fr mx)) := step_eq E fr s _ _ (q_slc ..) rfl
theorem s_slcA (n e : Nat) (x : Operand) (lo hi : Option Operand) : step E fr s (.slcA n e x lo hi) = ret1 s (slcAX n e (ev fr x) (evO fr lo) (evO fr hi)) := step_eq E fr s _ _ (q_slcA ..) rfl
theorem s_fldA (o : Nat) (x : Operand) : step E fr s (.fldA o x) = ret1 s (op1 (fldAA o) (ev fr x)) := step_eq E fr s _ _ (q_fldA ..) rfl
theorem s_fldV (o : Nat) (n : Option Nat) (x : Operand) : step E fr s (.fldV o n x) = ret1 s (op1 (fldVA o n) (ev fr x)) := step_eq E fr s _ _ (q_fldV ..) rfl
theorem s_idxS (e : Nat) (x i : Operand) : step E fr s (.idxS e x i) = ret1 s (op2 (idxSA e) (ev fr x) (ev fr i)) := step_eq E fr s _ _ (q_idxS ..) rfl
theorem s_idxA (n e : Nat) (x i : Operand) : step E fr s (.idxA n e x i) = ret1 s (op2 (idxAA n e) (ev fr x) (ev fr i)) := step_eq E fr s _ _ (q_idxA ..) rfl
theorem s_idxStr (x i : Operand) : step E fr s (.idxStr x i) = ret1 s (op2 idxStrA (ev fr x) (ev fr i)) := step_eq E fr s _ _ (q_idxStr ..) rfl
theorem s_idxV (n e : Nat) (g : Option Nat) (x i : Operand) : step E fr s (.idxV n e g x i) = ret1 s (op2 (idxVA n e g) (ev fr x) (ev fr i)) := step_eq E fr s _ _ (q_idxV ..) rfl
theorem s_ext (x : Operand) (i : Nat) : step E fr s (.ext x i) = ret1 s (op1 (extA i) (ev fr x)) := step_eq E fr s _ _ (q_ext ..) rfl
theorem s_mkFn (f : FuncId) (a b : List Operand) : step E fr s (.mkFn f a b) = ret1 s (op2 (mkFnA f) (evs fr a) (evs fr b)) := step_eq E fr s _ _ (q_mkFn ..) rfl
theorem s_mkIf (t : TypeId) (x : Operand) : step E fr s (.mkIf t x) = ret1 s (op1 (mkIfA t) (ev fr x)) := step_eq E fr s _ _ (q_mkIf ..) rfl
theorem s_len (t : Bool) (x : Operand) : step E fr s (.len t x) = ret1 s (op1 (lenX t) (ev fr x)) := step_eq E fr s _ _ (q_len ..) rfl
theorem s_mm (g : Bool) (x y : Operand) : step E fr s (.mm g x y) = ret1 s (op2 (mmA g) (ev fr x) (ev fr y)) := step_eq E fr s _ _ (q_mm ..) rfl
theorem s_cap (x : Operand) : step E fr s (.cap x) = ret1 s (op1 capA (ev fr x)) := step_eq E fr s _ _ (q_cap ..) rfl
theorem s_eqIf (neg lit : Bool) (ts : List TypeId) (x y : Operand) : step E fr s (.eqIf neg lit ts x y) = ret1 s (op2 (eqIfX neg lit ts) (ev fr x) (ev fr y)) := step_eq E fr s _ _ (q_eqIf ..) rfl
theorem s_callF (f : FuncId) (xs : List Operand) : step E fr s (.callF f xs) = callX E s f (evs fr xs) := by
  simp only [step, pstep, wstep, callX]
  cases evs fr xs with
  | none => rfl
  | some xs => simp only [Option.bind_some]; cases E.pcall f xs s <;> rfl
theorem s_callV (x : Operand) (xs : List Operand) : step E fr s (.callV x xs) = callY E s (ev fr x) (evs fr xs) := by
  simp only [step, pstep, wstep, callY]
  cases ev fr x with
  | none => rfl
  | some v =>
    cases evs fr xs with
    | none => rfl
    | some xs =>
      simp only [Option.bind_some]
      cases closeFn v xs with
      | none => rfl
      | some r => simp only [Option.bind_some]; cases E.pcall r.1 r.2 s <;> rfl
theorem s_app (t : TypeId) (e b : Nat) (x y : Operand) : step E fr s (.app t e b x y) = op2 (appX E s t e b) (ev fr x) (ev fr y) := by
  simp only [step, pstep, wstep, op2]
  cases ev fr x with
  | none => rfl
  | some u =>
    cases ev fr y with
    | none => rfl
    | some v => simp only [Option.bind_some, appX]; cases appP E s t e b u v <;> rfl
theorem s_store (n : Nat) (a v : Operand) : step E fr s (.store n a v) = op2 (storeA s n) (ev fr a) (ev fr v) := by
  simp only [step, pstep, wstep, op2]
  cases ev fr a with
  | none => rfl
  | some u =>
    cases ev fr v with
    | none => rfl
    | some v =>
      cases u with
      | pointer p => cases p <;> rfl
      | _ => rfl
theorem s_copy (e : Nat) (d x : Operand) : step E fr s (.copy e d x) = op2 (copyA E s e) (ev fr d) (ev fr x) := by
  simp only [step, pstep, wstep, op2]
  cases ev fr d with
  | none => rfl
  | some u =>
    cases ev fr x with
    | none => rfl
    | some v => cases u <;> rfl
end
theorem evs_nil (fr : Fr) : evs fr [] = some [] := rfl
def consO : Option Value → Option (List Value) → Option (List Value)
  | some v, some l => some (v :: l)
  | _, _ => none
theorem consO_some (v : Value) (l : List Value) : consO (some v) (some l) = some (v :: l) := rfl
theorem evs_cons (fr : Fr) (x : Operand) (r : List Operand) : evs fr (x :: r) = consO (ev fr x) (evs fr r) := by
  simp only [evs]
  cases ev fr x <;> cases evs fr r <;> rfl
theorem evO_none (fr : Fr) : evO fr none = some none := rfl
def mapO : Option Value → Option (Option Value)
  | some v => some (some v)
  | none => none
theorem mapO_some (v : Value) : mapO (some v) = some (some v) := rfl
theorem evO_some (fr : Fr) (x : Operand) : evO fr (some x) = mapO (ev fr x) := by
  simp only [evO]
  cases ev fr x <;> rfl
theorem evParts_nil (fr : Fr) : evParts fr [] = some [] := rfl
def consP (o n : Nat) : Option Value → Option (List (Nat × Nat × Value)) → Option (List (Nat × Nat × Value))
  | some v, some l => some ((o, n, v) :: l)
  | _, _ => none
theorem consP_some (o n : Nat) (v : Value) (l : List (Nat × Nat × Value)) : consP o n (some v) (some l) = some ((o, n, v) :: l) := rfl
theorem evParts_cons (fr : Fr) (o n : Nat) (x : Operand) (r : List (Nat × Nat × Operand)) : evParts fr ((o, n, x) :: r) = consP o n (ev fr x) (evParts fr r) := by
  simp only [evParts]
  cases ev fr x <;> cases evParts fr r <;> rfl
theorem hiddenHeap_nil (h : Heap) (ms : List Bool) : hiddenHeap h [] ms = h := by cases ms <;> rfl
theorem hiddenHeap_true (h : Heap) (n : Nat) (bs : List Blk) (r : List (Nat × List Blk)) (ms : List Bool) : hiddenHeap h ((n, bs) :: r) (true :: ms) = hpush (hiddenHeap h r ms) n bs := rfl
theorem hiddenHeap_false (h : Heap) (n : Nat) (bs : List Blk) (r : List (Nat × List Blk)) (ms : List Bool) : hiddenHeap h ((n, bs) :: r) (false :: ms) = hiddenHeap h r ms := rfl
theorem hiddenHeap_all (h : Heap) (n : Nat) (bs : List Blk) (r : List (Nat × List Blk)) : hiddenHeap h ((n, bs) :: r) [] = hpush (hiddenHeap h r []) n bs := rfl
theorem hpush_nil (h : Heap) (n : Nat) : hpush h n [] = h := rfl
end Go.Itp
/-
  Numbers and memory, for computing with unknowns.
-/
namespace Go.Itp

/-! ### numbers -/
theorem decide_yes {p : Prop} [Decidable p] (h : p) : decide p = true := by simp [h]
theorem decide_no {p : Prop} [Decidable p] (h : ¬ p) : decide p = false := by simp [h]
theorem b_lss (k : IntKind) (x y : Int) : binA .lss (.int k x) (.int k y) = some (.bool (decide (x < y))) := by simp [binA]
theorem b_leq (k : IntKind) (x y : Int) : binA .leq (.int k x) (.int k y) = some (.bool (decide (x ≤ y))) := by simp [binA]
theorem b_gtr (k : IntKind) (x y : Int) : binA .gtr (.int k x) (.int k y) = some (.bool (decide (y < x))) := by simp [binA]
theorem b_geq (k : IntKind) (x y : Int) : binA .geq (.int k x) (.int k y) = some (.bool (decide (y ≤ x))) := by simp [binA]
theorem b_eql (k : IntKind) (x y : Int) : binA .eql (.int k x) (.int k y) = some (.bool (decide (x = y))) := by
  simp only [binA, if_true, Option.some.injEq, Value.bool.injEq]
  rw [Bool.eq_iff_iff]; simp
theorem b_neq (k : IntKind) (x y : Int) : binA .neq (.int k x) (.int k y) = some (.bool (decide (¬ x = y))) := by
  simp only [binA, if_true, Option.some.injEq, Value.bool.injEq]
  rw [Bool.eq_iff_iff]; simp
theorem b_add (k : IntKind) (x y : Int) : binA .add (.int k x) (.int k y) = some (.int k (k.wrap (x + y))) := by simp [binA]
theorem b_sub (k : IntKind) (x y : Int) : binA .sub (.int k x) (.int k y) = some (.int k (k.wrap (x - y))) := by simp [binA]
theorem b_mul (k : IntKind) (x y : Int) : binA .mul (.int k x) (.int k y) = some (.int k (k.wrap (x * y))) := by simp [binA]
theorem b_quo (k : IntKind) (x y : Int) (h : y ≠ 0) : binA .quo (.int k x) (.int k y) = some (.int k (k.wrap (x.tdiv y))) := by simp [binA, h]
theorem b_rem (k : IntKind) (x y : Int) (h : y ≠ 0) : binA .rem (.int k x) (.int k y) = some (.int k (x.tmod y)) := by simp [binA, h]
theorem b_quo_pos (k : IntKind) (x y : Int) (h0 : 0 ≤ x) (h : 0 < y) : binA .quo (.int k x) (.int k y) = some (.int k (k.wrap (x / y))) := by
  rw [b_quo k x y (by omega), Int.tdiv_eq_ediv_of_nonneg h0]
theorem b_rem_pos (k : IntKind) (x y : Int) (h0 : 0 ≤ x) (h : 0 < y) : binA .rem (.int k x) (.int k y) = some (.int k (x % y)) := by
  rw [b_rem k x y (by omega), Int.tmod_eq_emod_of_nonneg h0]
theorem b_seql (a b : ByteArray) : binA .eql (.string a) (.string b) = some (.bool (decide (a = b))) := by
  simp only [binA, Option.some.injEq, Value.bool.injEq]
  rw [Bool.eq_iff_iff]
  simp only [beq_iff_eq, decide_eq_true_eq]
  rw [ByteArray.toList_eq, ByteArray.toList_eq]
  constructor
  · intro h
    apply ByteArray.ext
    have := congrArg List.toArray h
    simpa using this
  · intro h; rw [h]
theorem b_sneq (a b : ByteArray) : binA .neq (.string a) (.string b) = some (.bool (decide (¬ a = b))) := by
  have h := b_seql a b
  simp only [binA, Option.some.injEq, Value.bool.injEq] at h ⊢
  rw [h]
  rw [Bool.eq_iff_iff]; simp
theorem b_sadd (a b : ByteArray) (h : a.size + b.size < 9223372036854775807) : binA .add (.string a) (.string b) = some (.string (a ++ b)) := by simp [binA, h]
theorem wrap64 (x : Int) (h1 : -9223372036854775808 ≤ x) (h2 : x < 9223372036854775808) : IntKind.i64.wrap x = x := by
  simp [IntKind.wrap, IntKind.bits, IntKind.signed]
  omega
theorem wrap_u8 (x : Int) (h1 : 0 ≤ x) (h2 : x < 256) : IntKind.u8.wrap x = x := by
  simp [IntKind.wrap, IntKind.bits, IntKind.signed]
  omega
theorem u_not (b : Bool) : unA .not (.bool b) = some (.bool (!b)) := rfl
theorem u_neg (k : IntKind) (n : Int) : unA .neg (.int k n) = some (.int k (k.wrap (0 - n))) := rfl
theorem not_decide' (p : Prop) [Decidable p] : (!(decide p)) = decide (¬ p) := by by_cases h : p <;> simp [h]
theorem eqB_f (a b : Bool) : eqBA false (.bool a) (.bool b) = some (.bool (a == b)) := rfl
theorem eqB_t (a b : Bool) : eqBA true (.bool a) (.bool b) = some (.bool (!(a == b))) := rfl
theorem idxNat_in (k : IntKind) (z : Int) (n : Nat) (h0 : 0 ≤ z) (h1 : z < n) : idxNat (.int k z) n = some z.toNat := by simp [idxNat, h0, h1]
theorem mm_max (k j : IntKind) (a b : Int) : mmA true (.int k a) (.int j b) = some (.int k (max a b)) := by
  simp only [mmA, if_true, Option.some.injEq, Value.int.injEq, true_and]; omega
theorem mm_min (k j : IntKind) (a b : Int) : mmA false (.int k a) (.int j b) = some (.int k (min a b)) := by
  simp only [mmA, Option.some.injEq, Value.int.injEq, true_and, Bool.false_eq_true, if_false]; omega
theorem convI_int (k j : IntKind) (n : Int) : convIA k (.int j n) = some (.int k (k.wrap n)) := rfl
theorem ext_tuple (i : Nat) (vs : Array Value) : extA i (.tuple vs) = lget vs.toList i := rfl
theorem lget_zero {α : Type} (x : α) (r : List α) : lget (x :: r) 0 = some x := rfl
theorem lget_succ {α : Type} (x : α) (r : List α) (n : Nat) : lget (x :: r) (n + 1) = lget r n := rfl

/-! ### what splits a way -/
section
variable {E : Env} {K : List KF} {fr : Fr} {s : St} {P : Ex → Fr → St → Prop}
theorem does_goI_dec {p : Prop} [Decidable p] {t e : AC} (h1 : p → Does (go E t K fr s) P) (h2 : ¬ p → Does (go E e K fr s) P) : Does (goI E (some (.bool (decide p))) t e K fr s) P := by
  by_cases h : p
  · rw [decide_yes h, goI_true]; exact h1 h
  · rw [decide_no h, goI_false]; exact h2 h
theorem does_goI {b : Bool} {t e : AC} (h1 : b = true → Does (go E t K fr s) P) (h2 : b = false → Does (go E e K fr s) P) : Does (goI E (some (.bool b)) t e K fr s) P := by
  cases b
  · exact h2 rfl
  · exact h1 rfl
theorem does_goG_dec {p : Prop} [Decidable p] {want : Bool} {d : Option Nat} {o : AOp} {l : List AOper} {ks : List Nat} (h1 : p → Does (goG E (some (.bool true)) want d o l ks K fr s) P) (h2 : ¬ p → Does (goG E (some (.bool false)) want d o l ks K fr s) P) :
    Does (goG E (some (.bool (decide p))) want d o l ks K fr s) P := by
  by_cases h : p
  · rw [decide_yes h]; exact h1 h
  · rw [decide_no h]; exact h2 h
theorem does_goG {b : Bool} {want : Bool} {d : Option Nat} {o : AOp} {l : List AOper} {ks : List Nat} (h1 : b = true → Does (goG E (some (.bool true)) want d o l ks K fr s) P) (h2 : b = false → Does (goG E (some (.bool false)) want d o l ks K fr s) P) :
    Does (goG E (some (.bool b)) want d o l ks K fr s) P := by
  cases b
  · exact h2 rfl
  · exact h1 rfl
end

/-! ### memory -/
def bidA : Option Addr → Nat
  | some ⟨b, _, some _⟩ => b + 1
  | _ => 0
/-- one more than the block that a slice lies in; nought, if it is of old memory or nil -/
def bidN : Value → Nat
  | .slice a _ _ => bidA a
  | .pointer a => bidA a
  | _ => 0
def elP : Value → Nat → Value
  | .slice (some a) _ _, k => .pointer (some (aadd a k))
  | _, _ => .pointer none
def aloadO (old : Nat → Nat → Option Value) (h : Heap) (a : Addr) : Option Value :=
  match a.spot with
  | none => old a.block a.off
  | some _ => (hget h a.block).bind fun b => lget b.cells a.off
def loadO (old : Nat → Nat → Option Value) (h : Heap) : Value → Option Value
  | .pointer (some a) => aloadO old h a
  | _ => none
def srcO (old : Nat → Nat → Option Value) (h : Heap) (e n : Nat) (v : Value) : Option (List Value) := srcCells ⟨fun _ _ _ => none, fun _ _ _ => none, old, 0⟩ h e n v
theorem aload_old (E : Env) (h : Heap) (a : Addr) : aload E h a = aloadO E.old h a := rfl
theorem loadA_old (E : Env) (h : Heap) (v : Value) : loadA E h none v = loadO E.old h v := by
  cases v with
  | pointer a => cases a <;> rfl
  | _ => rfl
theorem oldN_old (E E' : Env) (he : E.old = E'.old) (b : Nat) : ∀ (n o : Nat), oldN E b o n = oldN E' b o n
  | 0, _ => rfl
  | n + 1, o => by simp only [oldN, he, oldN_old E E' he b n (o + 1)]
theorem srcCells_old (E E' : Env) (he : E.old = E'.old) (h : Heap) (e n : Nat) (v : Value) : srcCells E h e n v = srcCells E' h e n v := by
  cases v with
  | slice a m c =>
    cases a with
    | none => rfl
    | some a =>
      simp only [srcCells, aloadN]
      split
      · exact oldN_old E E' he _ _ _
      · rfl
  | _ => rfl
theorem callP_old (old : Nat → Nat → Option Value) (r : Nat) (fns : FuncId → Option AFun) (prims : FuncId → List Value → St → Option (Value × List Blk)) : ∀ n, (callP old r fns prims n).old = old
  | 0 => rfl
  | _ + 1 => rfl
theorem callP_rounds (old : Nat → Nat → Option Value) (r : Nat) (fns : FuncId → Option AFun) (prims : FuncId → List Value → St → Option (Value × List Blk)) : ∀ n, (callP old r fns prims n).rounds = r
  | 0 => rfl
  | _ + 1 => rfl

theorem hget_push_lt (h : Heap) (n i : Nat) (bs : List Blk) (hi : i < n) : hget (hpush h n bs) i = hget h i := by
  rw [hget_hpush, if_neg (by omega)]
theorem hget_push_one (h : Heap) (n i : Nat) (b : Blk) (hi : i = n) : hget (hpush h n [b]) i = some b := by
  subst hi; rw [hget_hpush, if_pos (by simp)]; simp
theorem hget_push_gt (h : Heap) (n i : Nat) (b : Blk) (hi : ¬ i = n) : hget (hpush h n [b]) i = hget h i := by
  rw [hget_hpush, if_neg (by simp; omega)]
theorem hget_set_ne : ∀ (h : Heap) (i j : Nat) (b : Blk), ¬ j = i → hget (hset h i b) j = hget h j
  | [], _, _, _, _ => rfl
  | (k, u) :: r, i, j, b, hj => by
    simp only [hset]
    by_cases hk : i = k
    · rw [if_pos (nbeq.2 hk)]
      simp only [hget]
      rw [if_neg (by rw [nbeq]; omega), if_neg (by rw [nbeq]; omega)]
    · rw [if_neg (by rw [nbeq]; exact hk)]
      simp only [hget]
      rw [hget_set_ne r i j b hj]
theorem hget_set_eq (h : Heap) (i j : Nat) (b c : Blk) (hj : j = i) (hc : hget h i = some c) : hget (hset h i b) j = some b := by
  rw [hget_hset h i j b c hc, if_pos hj]
theorem hget_del_ne : ∀ (h : Heap) (i j : Nat), ¬ j = i → hget (hdel h i) j = hget h j
  | [], _, _, _ => rfl
  | (k, u) :: r, i, j, hj => by
    simp only [hdel]
    by_cases hk : i = k
    · rw [if_pos (nbeq.2 hk)]
      simp only [hget]
      rw [if_neg (by rw [nbeq]; omega)]
    · rw [if_neg (by rw [nbeq]; exact hk)]
      simp only [hget]
      rw [hget_del_ne r i j hj]

/-- what was there up to block n is there still -/
def HX (n : Nat) (h0 h : Heap) : Prop := ∀ i, i < n → hget h i = hget h0 i
theorem HX.refl (n : Nat) (h : Heap) : HX n h h := fun _ _ => rfl
theorem HX.trans {n m : Nat} {a b c : Heap} (h : HX n a b) (k : HX m b c) (hm : n ≤ m) : HX n a c := fun i hi => by rw [k i (by omega), h i hi]
theorem HX.push {n m : Nat} {h0 h : Heap} (hx : HX n h0 h) (bs : List Blk) (hm : n ≤ m) : HX n h0 (hpush h m bs) := fun i hi => by rw [hget_push_lt _ _ _ _ (by omega), hx i hi]
theorem HX.set {n i : Nat} {h0 h : Heap} (hx : HX n h0 h) (b : Blk) (hi : n ≤ i) : HX n h0 (hset h i b) := fun j hj => by rw [hget_set_ne _ _ _ _ (by omega), hx j hj]
theorem HX.del {n i : Nat} {h0 h : Heap} (hx : HX n h0 h) (hi : n ≤ i) : HX n h0 (hdel h i) := fun j hj => by rw [hget_del_ne _ _ _ (by omega), hx j hj]

/-- A slice of elements of one cell each reads as a list. -/
structure Rd {α : Type} (old : Nat → Nat → Option Value) (h : Heap) (f : α → Value) (v : Value) (l : List α) : Prop where
  is : (∃ a c, v = .slice a l.length c ∧ l.length ≤ knownCap c ∧ ((a = none ∧ l = []) ∨ ∃ ad, a = some ad ∧ (∀ i, bidA (some ad) = i + 1 → ∃ b, hget h i = some b) ∧ ∀ k (hk : k < l.length), aloadO old h (aadd ad k) = some (f l[k]))) ∨
    (l = [] ∧ ∃ k b n, v = .complex k b n)

section
variable {α : Type} {old : Nat → Nat → Option Value} {h : Heap} {f : α → Value} {v : Value} {l : List α}
theorem Rd.len (r : Rd old h f v l) : lenX false v = some (.int .i64 l.length) := by
  rcases r.is with ⟨a, c, rfl, _⟩ | ⟨rfl, k, b, n, rfl⟩ <;> rfl
theorem Rd.lenA (r : Rd old h f v l) : lenA v = some l.length := by
  rcases r.is with ⟨a, c, rfl, _⟩ | ⟨rfl, k, b, n, rfl⟩ <;> rfl
theorem Rd.idx (r : Rd old h f v l) (kd : IntKind) (z : Int) (h0 : 0 ≤ z) (h1 : z < l.length) : idxSA 1 v (.int kd z) = some (elP v z.toNat) := by
  rcases r.is with ⟨a, c, rfl, _, h2⟩ | ⟨rfl, _⟩
  case inr => simp at h1; omega
  rcases h2 with ⟨rfl, rfl⟩ | ⟨ad, rfl, hb, h2⟩
  · simp at h1; omega
  · simp only [idxSA, idxNat_in kd z _ h0 h1, Option.map_some, Nat.mul_one, elP]
theorem Rd.load [Inhabited α] (r : Rd old h f v l) (k : Nat) (hk : k < l.length) : loadO old h (elP v k) = some (f l[k]!) := by
  rcases r.is with ⟨a, c, rfl, _, h2⟩ | ⟨rfl, _⟩
  case inr => simp at hk
  rcases h2 with ⟨rfl, rfl⟩ | ⟨ad, rfl, hb, h2⟩
  · simp at hk
  · simp only [elP, loadO, h2 k hk, getElem!_pos l k hk]
theorem aload_bid {old : Nat → Nat → Option Value} {h h' : Heap} {ad : Addr} (k : Nat) (hh : ∀ i, bidA (some ad) = i + 1 → hget h' i = hget h i) : aloadO old h' (aadd ad k) = aloadO old h (aadd ad k) := by
  obtain ⟨b, o, sp⟩ := ad
  cases sp with
  | none => rfl
  | some p => simp only [aloadO, aadd, hh b rfl]
theorem Rd.mono (r : Rd old h f v l) {h' : Heap} (hh : ∀ i, bidN v = i + 1 → hget h' i = hget h i) : Rd old h' f v l := by
  rcases r.is with ⟨a, c, rfl, h1, h2⟩ | h0
  case inr => exact ⟨Or.inr h0⟩
  refine ⟨Or.inl ⟨a, c, rfl, h1, ?_⟩⟩
  rcases h2 with h2 | ⟨ad, rfl, hb, h2⟩
  · exact Or.inl h2
  · exact Or.inr ⟨ad, rfl, fun i hi => by rw [hh i hi]; exact hb i hi, fun k hk => by rw [aload_bid k hh]; exact h2 k hk⟩
theorem Rd.hx (r : Rd old h f v l) {n : Nat} {h' : Heap} (hx : HX n h h') (hb : bidN v ≤ n) : Rd old h' f v l := r.mono fun i hi => hx i (by omega)
theorem Rd.push (r : Rd old h f v l) {n : Nat} (bs : List Blk) (hb : bidN v ≤ n) : Rd old (hpush h n bs) f v l := r.mono fun i hi => hget_push_lt _ _ _ _ (by omega)
theorem Rd.set (r : Rd old h f v l) {i : Nat} (b : Blk) (hb : ¬ bidN v = i + 1) : Rd old (hset h i b) f v l := r.mono fun j hj => hget_set_ne _ _ _ _ (by omega)
theorem Rd.del (r : Rd old h f v l) {i : Nat} (hb : ¬ bidN v = i + 1) : Rd old (hdel h i) f v l := r.mono fun j hj => hget_del_ne _ _ _ (by omega)
theorem Rd.old0 (r : Rd old h f v l) (hb : bidN v = 0) (h' : Heap) : Rd old h' f v l := r.mono fun i hi => by omega
theorem Rd.newb {b : Blk} {i n c : Nat} (hg : hget h i = some b) (hb : b.cells = l.map f) (hn : n = l.length) (hc : n ≤ knownCap c) : Rd old h f (.slice (some ⟨i, 0, some 0⟩) n c) l := by
  subst hn
  refine ⟨Or.inl ⟨_, c, rfl, hc, Or.inr ⟨_, rfl, fun j hj => ?_, fun k hk => ?_⟩⟩⟩
  · simp only [bidA, Nat.add_right_cancel_iff] at hj; subst hj; exact ⟨b, hg⟩
  simp [aloadO, aadd, hg, hb, lget_eq, hk]
theorem Rd.nil : Rd old h f (.slice none 0 0) [] := ⟨Or.inl ⟨none, 0, rfl, by simp, Or.inl ⟨rfl, rfl⟩⟩⟩
theorem Rd.odd (k : FloatKind) (b n : Nat) : Rd old h f (.complex k b n) [] := ⟨Or.inr ⟨rfl, k, b, n, rfl⟩⟩
theorem oldN_get {E : Env} {b : Nat} : ∀ (n o : Nat) (l : List Value), l.length = n → (∀ k (hk : k < l.length), E.old b (o + k) = some l[k]) → oldN E b o n = some l
  | 0, _, l, hl, _ => by
    have : l = [] := List.length_eq_zero_iff.1 hl
    subst this; rfl
  | n + 1, o, [], hl, _ => by simp at hl
  | n + 1, o, x :: l, hl, h => by
    have h0 := h 0 (by simp)
    simp only [Nat.add_zero, List.getElem_cons_zero] at h0
    have ih := oldN_get (E := E) (b := b) n (o + 1) l (by simpa using hl) (fun k hk => by have := h (k + 1) (by simpa using hk); simpa [Nat.add_assoc, Nat.add_comm 1 k] using this)
    simp [oldN, h0, ih]
theorem ltake_eq {α : Type} : ∀ (l : List α) (n : Nat), n ≤ l.length → ltake l n = some (l.take n)
  | _, 0, _ => by simp [ltake]
  | [], n + 1, h => by simp at h
  | x :: l, n + 1, h => by simp [ltake, ltake_eq l n (by simpa using h)]
theorem Rd.src (r : Rd old h f v l) (n : Nat) (hn : n ≤ l.length) : srcO old h 1 n v = some ((l.take n).map f) := by
  rcases r.is with ⟨a, c, rfl, _, h2⟩ | ⟨rfl, _, _, _, rfl⟩
  case inr =>
    have : n = 0 := by simpa using hn
    subst this; rfl
  rcases h2 with ⟨rfl, rfl⟩ | ⟨ad, rfl, hb, h2⟩
  · have : n = 0 := by simpa using hn
    subst this; rfl
  · obtain ⟨b, o, sp⟩ := ad
    cases sp with
    | none =>
      simp only [srcO, srcCells, aloadN, Nat.mul_one]
      refine oldN_get n o _ (by simp; omega) (fun k hk => ?_)
      have hk' : k < l.length := by simp at hk; omega
      have := h2 k hk'
      simp only [aloadO, aadd] at this
      simp [this]
    | some p =>
      simp only [srcO, srcCells, aloadN, Nat.mul_one]
      obtain ⟨bl, hl⟩ := hb b rfl
      rw [hl]
      simp only [Option.bind_some]
      have hget : ∀ k (hk : k < l.length), bl.cells[o + k]? = some (f l[k]) := fun k hk => by
        have := h2 k hk
        simp only [aloadO, aadd, hl, Option.bind_some, lget_eq] at this
        exact this
      by_cases h0 : n = 0
      · subst h0; simp [ltake]
      have hlen : o + n ≤ bl.cells.length := by
        have := hget (n - 1) (by omega)
        have := (List.getElem?_eq_some_iff.1 this).1
        omega
      rw [ltake_eq _ _ (by simp; omega)]
      congr 1
      apply List.ext_getElem?
      intro k
      by_cases hk : k < n
      · simp [hk, hget k (by omega), List.getElem?_drop]
        rw [List.getElem?_eq_getElem (by omega)]
        rfl
      · rw [List.getElem?_eq_none (by simp; omega), List.getElem?_eq_none (by simp; omega)]
end
end Go.Itp
/-
  Calls, results, slices that grow, stores: for computing with unknowns.
-/
namespace Go.Itp

/-! ### results -/
def RetX (o : Option (List Value)) (n0 : Nat) (h : Heap) (Q : Value → List Blk → Prop) : Prop := ∃ vs v bs, o = some vs ∧ gc n0 h (tupleOf vs) = some (v, bs) ∧ Q v bs
def RetP (E : Env) (res : List (Nat × Option (Option Nat))) (n0 : Nat) (Q : Value → List Blk → Prop) : Ex → Fr → St → Prop
  | .exit _, _, _ => False
  | _, fr, s => RetX (resOf E fr s res) n0 s.heap Q
theorem retP_ret (E res n0 Q fr s) : RetP E res n0 Q .ret fr s = RetX (resOf E fr s res) n0 s.heap Q := rfl
theorem retP_normal (E res n0 Q fr s) : RetP E res n0 Q .normal fr s = RetX (resOf E fr s res) n0 s.heap Q := rfl
theorem resOf_nil (E : Env) (fr : Fr) (s : St) : resOf E fr s [] = some [] := rfl
theorem resOf_tmp (E : Env) (fr : Fr) (s : St) (t : Nat) (r : List (Nat × Option (Option Nat))) : resOf E fr s ((t, none) :: r) = consO (fget fr t) (resOf E fr s r) := by
  simp only [resOf]
  cases fget fr t <;> cases resOf E fr s r <;> rfl
theorem resOf_cell (E : Env) (fr : Fr) (s : St) (t : Nat) (g : Option Nat) (r : List (Nat × Option (Option Nat))) : resOf E fr s ((t, some g) :: r) = consO (op1 (loadA E s.heap g) (fget fr t)) (resOf E fr s r) := by
  simp only [resOf]
  cases fget fr t with
  | none => rfl
  | some v =>
    cases v with
    | pointer a =>
      cases a with
      | none => simp [op1, loadA, consO]
      | some a =>
        simp only [Option.bind_some, op1, loadA]
        cases loadG E s.heap a g with
        | none => simp [consO]
        | some u => cases resOf E fr s r <;> simp [consO]
    | _ => simp [op1, loadA, consO]
theorem tupleOf_one (v : Value) : tupleOf [v] = v := rfl
theorem tupleOf_two (a b : Value) (r : List Value) : tupleOf (a :: b :: r) = .tuple (a :: b :: r).toArray := rfl
theorem retX_some (vs : List Value) (n0 : Nat) (h : Heap) (Q) : RetX (some vs) n0 h Q = ∃ v bs, gc n0 h (tupleOf vs) = some (v, bs) ∧ Q v bs := by
  apply propext
  constructor
  · rintro ⟨_, v, bs, h1, h2, h3⟩
    cases h1
    exact ⟨v, bs, h2, h3⟩
  · rintro ⟨v, bs, h2, h3⟩
    exact ⟨_, v, bs, rfl, h2, h3⟩

theorem gc_none {n0 : Nat} {h : Heap} {v : Value} (hv : ids n0 v = []) : gc n0 h v = some (v, []) := by
  unfold gc; rw [hv]
theorem renTo_lt {n0 : Nat} {ord : List Nat} : ∀ i, i < n0 → renTo n0 ord i = i := fun i hi => by
  unfold renTo; rw [if_pos (by rw [Nat.blt_eq]; exact hi)]
theorem gc_one {n0 i : Nat} {h : Heap} {v : Value} {b : Blk} (hv : ids n0 v = [i]) (hb : hget h i = some b) (hc : idsL n0 b.cells = []) : gc n0 h v = some (ren (renTo n0 [i]) v, [b]) := by
  unfold gc
  rw [hv]
  have h1 : reach n0 h 1000000 [i] [] = some [i] := by
    show reach n0 h (999999 + 1) [i] [] = some [i]
    simp only [reach, elemB, hb, Option.bind_some, hc, List.nil_append]
    simp
  simp only [h1, Option.bind_some, List.reverse_cons, List.reverse_nil, List.nil_append, pickUp, hb, Option.map_some]
  rw [renL_id (n0 := n0) (fun j hj => renTo_lt j hj) _ hc]
theorem gc_two {n0 i j : Nat} {h : Heap} {v : Value} {b c : Blk} (hv : ids n0 v = [i, j]) (hij : ¬ i = j) (hb : hget h i = some b) (hc : hget h j = some c) (hb0 : idsL n0 b.cells = []) (hc0 : idsL n0 c.cells = []) :
    gc n0 h v = some (ren (renTo n0 [i, j]) v, [b, c]) := by
  unfold gc
  rw [hv]
  have h1 : reach n0 h 1000000 [i, j] [] = some [j, i] := by
    show reach n0 h (999998 + 1 + 1) [i, j] [] = some [j, i]
    have e2 : Nat.beq j i = false := by rw [Bool.eq_false_iff]; exact fun h => hij (nbeq.1 h).symm
    simp [reach, elemB, hb, hc, hb0, hc0, e2]
  simp only [h1, Option.bind_some, List.reverse_cons, List.reverse_nil, List.nil_append, List.cons_append, pickUp, hb, hc, Option.map_some]
  rw [renL_id (n0 := n0) (fun j hj => renTo_lt j hj) _ hc0, renL_id (n0 := n0) (fun j hj => renTo_lt j hj) _ hb0]
theorem gc_int (n0 : Nat) (h : Heap) (k : IntKind) (z : Int) : gc n0 h (.int k z) = some (.int k z, []) := rfl
theorem gc_bool (n0 : Nat) (h : Heap) (b : Bool) : gc n0 h (.bool b) = some (.bool b, []) := rfl
theorem gc_string (n0 : Nat) (h : Heap) (b : ByteArray) : gc n0 h (.string b) = some (.string b, []) := rfl
theorem gc_nil_int (n0 : Nat) (h : Heap) (n c : Nat) (k : IntKind) (z : Int) : gc n0 h (.tuple [.slice none n c, .int k z].toArray) = some (.tuple [.slice none n c, .int k z].toArray, []) := rfl
theorem gc_int_int (n0 : Nat) (h : Heap) (k j : IntKind) (z y : Int) : gc n0 h (.tuple [.int k z, .int j y].toArray) = some (.tuple [.int k z, .int j y].toArray, []) := rfl
theorem gc_string_int (n0 : Nat) (h : Heap) (b : ByteArray) (k : IntKind) (z : Int) : gc n0 h (.tuple [.string b, .int k z].toArray) = some (.tuple [.string b, .int k z].toArray, []) := rfl
theorem ids_int (n0 : Nat) (k : IntKind) (z : Int) : ids n0 (.int k z) = [] := rfl
theorem ids_bool (n0 : Nat) (b : Bool) : ids n0 (.bool b) = [] := rfl
theorem ids_string (n0 : Nat) (b : ByteArray) : ids n0 (.string b) = [] := rfl
theorem ids_tuple (n0 : Nat) (l : List Value) : ids n0 (.tuple l.toArray) = idsL n0 l := rfl
theorem ids_agg (n0 : Nat) (l : List Value) : ids n0 (.agg l.toArray) = idsL n0 l := rfl
theorem ids_nil (n0 n c : Nat) : ids n0 (.slice none n c) = [] := rfl
theorem ids_slice (n0 i o p n c : Nat) (h : n0 ≤ i) : ids n0 (.slice (some ⟨i, o, some p⟩) n c) = [i] := by simp [ids, addrIds, h]
theorem ids_pointer (n0 i o p : Nat) (h : n0 ≤ i) : ids n0 (.pointer (some ⟨i, o, some p⟩)) = [i] := by simp [ids, addrIds, h]
theorem ids_nilp (n0 : Nat) : ids n0 (.pointer none) = [] := rfl
theorem ids_nili (n0 : Nat) : ids n0 .nilIface = [] := rfl
theorem ids_low {n0 : Nat} {v : Value} (a : Option Addr) (n c : Nat) (hv : v = .slice a n c) (h : bidN v ≤ n0) : ids n0 v = [] := by
  subst hv
  rcases a with _ | ⟨b, o, sp⟩
  · rfl
  · cases sp with
    | none => rfl
    | some p => simp [bidN, bidA] at h; simp [ids, addrIds]; omega
theorem idsL_nil (n0 : Nat) : idsL n0 [] = [] := rfl
theorem idsL_cons (n0 : Nat) (v : Value) (l : List Value) : idsL n0 (v :: l) = ids n0 v ++ idsL n0 l := rfl
theorem idsL_map {α : Type} {f : α → Value} {n0 : Nat} (hf : ∀ x, ids n0 (f x) = []) : ∀ l : List α, idsL n0 (l.map f) = []
  | [] => rfl
  | x :: l => by simp [idsL, hf, idsL_map hf l]
theorem ren_int (g : Nat → Nat) (k : IntKind) (z : Int) : ren g (.int k z) = .int k z := rfl
theorem ren_bool (g : Nat → Nat) (b : Bool) : ren g (.bool b) = .bool b := rfl
theorem ren_string (g : Nat → Nat) (b : ByteArray) : ren g (.string b) = .string b := rfl
theorem ren_nil (g : Nat → Nat) (n c : Nat) : ren g (.slice none n c) = .slice none n c := rfl
theorem ren_tuple (g : Nat → Nat) (l : List Value) : ren g (.tuple l.toArray) = .tuple (renL g l).toArray := rfl
theorem ren_agg (g : Nat → Nat) (l : List Value) : ren g (.agg l.toArray) = .agg (renL g l).toArray := rfl
theorem renL_nil (g : Nat → Nat) : renL g [] = [] := rfl
theorem renL_cons (g : Nat → Nat) (v : Value) (l : List Value) : renL g (v :: l) = ren g v :: renL g l := rfl
theorem ren_slice (g : Nat → Nat) (i o p n c : Nat) : ren g (.slice (some ⟨i, o, some p⟩) n c) = .slice (some ⟨g i, o, some p⟩) n c := rfl
theorem renTo_one (n0 i : Nat) (h : n0 ≤ i) : renTo n0 [i] i = n0 := by
  unfold renTo; rw [if_neg (by rw [Nat.blt_eq]; omega)]; simp [indexOf]
theorem renTo_fst (n0 i j : Nat) (h : n0 ≤ i) : renTo n0 [i, j] i = n0 := by
  unfold renTo; rw [if_neg (by rw [Nat.blt_eq]; omega)]; simp [indexOf]
theorem renTo_snd (n0 i j : Nat) (h : n0 ≤ j) (hij : ¬ j = i) : renTo n0 [i, j] j = n0 + 1 := by
  unfold renTo; rw [if_neg (by rw [Nat.blt_eq]; omega)]
  have : Nat.beq j i = false := by rw [Bool.eq_false_iff]; exact fun h => hij (nbeq.1 h)
  simp [indexOf, this]

theorem gc_slice {n0 i o p n c : Nat} {h : Heap} {b : Blk} (hi : n0 ≤ i) (hb : hget h i = some b) (hc : idsL n0 b.cells = []) :
    gc n0 h (.slice (some ⟨i, o, some p⟩) n c) = some (.slice (some ⟨n0, o, some p⟩) n c, [b]) := by
  rw [gc_one (ids_slice n0 i o p n c hi) hb hc, ren_slice, renTo_one n0 i hi]
theorem gc_slice_int {n0 i o p n c : Nat} {h : Heap} {b : Blk} {k : IntKind} {z : Int} (hi : n0 ≤ i) (hb : hget h i = some b) (hc : idsL n0 b.cells = []) :
    gc n0 h (.tuple [.slice (some ⟨i, o, some p⟩) n c, .int k z].toArray) = some (.tuple [.slice (some ⟨n0, o, some p⟩) n c, .int k z].toArray, [b]) := by
  rw [gc_one (by rw [ids_tuple, idsL_cons, ids_slice n0 i o p n c hi]; rfl) hb hc, ren_tuple, renL_cons, ren_slice, renTo_one n0 i hi]
  rfl
def gcO (o : Option (List Value)) (n0 : Nat) (h : Heap) : Option (Value × List Blk) := o.bind fun vs => gc n0 h (tupleOf vs)
theorem gcO_some (vs : List Value) (n0 : Nat) (h : Heap) : gcO (some vs) n0 h = gc n0 h (tupleOf vs) := rfl
def RetE (E : Env) (res : List (Nat × Option (Option Nat))) (n0 : Nat) (r : Option (Value × List Blk)) : Ex → Fr → St → Prop
  | .exit _, _, _ => False
  | _, fr, s => gcO (resOf E fr s res) n0 s.heap = r
theorem retE_ret (E res n0 r fr s) : RetE E res n0 r .ret fr s = (gcO (resOf E fr s res) n0 s.heap = r) := rfl
theorem retE_normal (E res n0 r fr s) : RetE E res n0 r .normal fr s = (gcO (resOf E fr s res) n0 s.heap = r) := rfl
/-! ### calls -/
section
variable {old : Nat → Nat → Option Value} {r : Nat} {fns : FuncId → Option AFun} {prims : FuncId → List Value → St → Option (Value × List Blk)} {n : Nat} {f : FuncId} {xs : List Value} {s : St} {code : AC} {nt : Nat} {res : List (Nat × Option (Option Nat))}
theorem body_of {E : Env} {af : AFun} {Q : Value → List Blk → Prop} {n0 : Nat} (hlen : xs.length ≤ af.n) (h : Does (go E af.code [] (args0 0 xs) s) (RetP E af.res n0 Q)) :
    ∃ u s', body E af xs s = some (u, s') ∧ ∃ v bs, gc n0 s'.heap u = some (v, bs) ∧ Q v bs := by
  obtain ⟨ex, fr, s', he, hq⟩ := h
  have key : RetX (resOf E fr s' af.res) n0 s'.heap Q → (match ex with | .exit _ => False | _ => True) → ∃ u s', body E af xs s = some (u, s') ∧ ∃ v bs, gc n0 s'.heap u = some (v, bs) ∧ Q v bs := by
    rintro ⟨vs, v, bs, h1, h2, h3⟩ hx
    refine ⟨tupleOf vs, s', ?_, v, bs, h2, h3⟩
    unfold body
    rw [if_pos (by rw [Nat.ble_eq]; exact hlen), exec_go, he]
    cases ex with
    | exit i => exact hx.elim
    | normal => simp [h1]
    | ret => simp [h1]
  cases ex with
  | exit i => exact hq.elim
  | normal => exact key hq trivial
  | ret => exact key hq trivial
theorem pcall_ex {Q : Value → List Blk → Prop} (hf : fns f = some ⟨code, nt, res, true⟩) (hp : prims f xs s = none) (hlen : xs.length ≤ nt)
    (h : Does (go (callP old r fns prims n) code [] (args0 0 xs) ⟨s.heap, s.next, s.next⟩) (RetP (callP old r fns prims n) res s.next Q)) : ∃ v bs, (callP old r fns prims (n + 1)).pcall f xs s = some (v, bs) ∧ Q v bs := by
  obtain ⟨u, s', hb, v, bs, hg, hq⟩ := body_of (af := ⟨code, nt, res, true⟩) hlen h
  refine ⟨v, bs, ?_, hq⟩
  simp only [callP, hp, hf, Option.bind_some, if_true, hb, hg]
theorem pcall_eq {v : Value} {bs : List Blk} (hf : fns f = some ⟨code, nt, res, true⟩) (hp : prims f xs s = none) (hlen : xs.length ≤ nt)
    (h : Does (go (callP old r fns prims n) code [] (args0 0 xs) ⟨s.heap, s.next, s.next⟩) (RetE (callP old r fns prims n) res s.next (some (v, bs)))) : (callP old r fns prims (n + 1)).pcall f xs s = some (v, bs) := by
  have h' : Does (go (callP old r fns prims n) code [] (args0 0 xs) ⟨s.heap, s.next, s.next⟩) (RetP (callP old r fns prims n) res s.next fun v' bs' => v' = v ∧ bs' = bs) := by
    refine h.mono fun ex fr t hq => ?_
    have key : gcO (resOf (callP old r fns prims n) fr t res) s.next t.heap = some (v, bs) → RetX (resOf (callP old r fns prims n) fr t res) s.next t.heap fun v' bs' => v' = v ∧ bs' = bs := fun h => by
      unfold gcO at h
      cases ho : resOf (callP old r fns prims n) fr t res with
      | none => rw [ho] at h; cases h
      | some vs => rw [ho] at h; exact ⟨vs, v, bs, rfl, h, rfl, rfl⟩
    cases ex with
    | exit i => exact hq.elim
    | normal => exact key hq
    | ret => exact key hq
  obtain ⟨v', bs', h1, rfl, rfl⟩ := pcall_ex hf hp hlen h'
  exact h1
theorem pcall_imp {af : AFun} (hf : fns f = some af) (hpu : af.pure = false) (hp : prims f xs s = none) : (callP old r fns prims (n + 1)).pcall f xs s = none := by
  simp [callP, hp, hf, hpu]
def RetW (E : Env) (res : List (Nat × Option (Option Nat))) (Q : Value → St → Prop) : Ex → Fr → St → Prop
  | .exit _, _, _ => False
  | _, fr, s => ∃ vs, resOf E fr s res = some vs ∧ Q (tupleOf vs) s
def RetWX (o : Option (List Value)) (s : St) (Q : Value → St → Prop) : Prop := ∃ vs, o = some vs ∧ Q (tupleOf vs) s
theorem retW_ret (E res Q fr s) : RetW E res Q .ret fr s = RetWX (resOf E fr s res) s Q := rfl
theorem retW_normal (E res Q fr s) : RetW E res Q .normal fr s = RetWX (resOf E fr s res) s Q := rfl
theorem retWX_some (vs : List Value) (s : St) (Q) : RetWX (some vs) s Q = Q (tupleOf vs) s := by
  apply propext
  constructor
  · rintro ⟨_, h, q⟩
    cases h
    exact q
  · exact fun q => ⟨_, rfl, q⟩
theorem body_w {E : Env} {af : AFun} {Q : Value → St → Prop} (hlen : xs.length ≤ af.n) (h : Does (go E af.code [] (args0 0 xs) s) (RetW E af.res Q)) : ∃ v s', body E af xs s = some (v, s') ∧ Q v s' := by
  obtain ⟨ex, fr, s', he, hq⟩ := h
  cases ex with
  | exit i => exact hq.elim
  | normal =>
    obtain ⟨vs, h1, h2⟩ := hq
    exact ⟨_, s', by unfold body; rw [if_pos (by rw [Nat.ble_eq]; exact hlen), exec_go, he]; simp [h1], h2⟩
  | ret =>
    obtain ⟨vs, h1, h2⟩ := hq
    exact ⟨_, s', by unfold body; rw [if_pos (by rw [Nat.ble_eq]; exact hlen), exec_go, he]; simp [h1], h2⟩
theorem wcall_ex {Q : Value → St → Prop} (hf : fns f = some ⟨code, nt, res, false⟩) (hlen : xs.length ≤ nt)
    (h : Does (go (callP old r fns prims n) code [] (args0 0 xs) s) (RetW (callP old r fns prims n) res Q)) : ∃ v s', (callP old r fns prims (n + 1)).wcall f xs s = some (v, s') ∧ Q v s' := by
  obtain ⟨v, s', hb, hq⟩ := body_w (af := ⟨code, nt, res, false⟩) hlen h
  refine ⟨v, s', ?_, hq⟩
  simp [callP, hf, hb]
end

/-! ### stores -/
def storeB (o : Option Blk) (s : St) (i k : Nat) (v : Value) : Option (Value × St) :=
  match o with
  | some b => if Nat.ble s.prot i && oneCell v && Nat.blt k b.cells.length then some (.tuple #[], ⟨hset s.heap i { b with cells := b.cells.set k v }, s.next, s.prot⟩) else none
  | none => none
theorem lput_one (v : Value) : ∀ (cs : List Value) (k : Nat), k < cs.length → lput cs k [v] = some (cs.set k v)
  | [], k, h => by simp at h
  | c :: cs, 0, _ => by simp [lput]
  | c :: cs, k + 1, h => by simp [lput, lput_one v cs k (by simpa using h)]
theorem cells_one {v : Value} (h : oneCell v = true) : v.cells.toList = [v] := by
  cases v <;> first | rfl | (simp [oneCell] at h)
theorem store_new (s : St) (i k p : Nat) (v : Value) (e g t) (cs : List Value) (hh : hget s.heap i = some ⟨cs, e, g, t⟩) (h0 : s.prot ≤ i) (hv : oneCell v = true) (hk : k < cs.length) :
    storeA s 1 (.pointer (some ⟨i, k, some p⟩)) v = some (.tuple #[], ⟨hset s.heap i ⟨cs.set k v, e, g, t⟩, s.next, s.prot⟩) := by
  have e1 : Nat.beq 1 1 = true := rfl
  have e2 : Nat.ble s.prot i = true := by rw [Nat.ble_eq]; exact h0
  simp only [storeA, cells_one hv, astore, List.length_singleton, e1, e2, if_true]
  simp [hh, hv, lput_one v cs k hk]
theorem storeA_new (s : St) (i k p : Nat) (v : Value) (hv : oneCell v = true) (h0 : s.prot ≤ i) : storeA s 1 (.pointer (some ⟨i, k, some p⟩)) v = storeB (hget s.heap i) s i k v := by
  have e1 : Nat.beq 1 1 = true := rfl
  have e2 : Nat.ble s.prot i = true := by rw [Nat.ble_eq]; exact h0
  simp only [storeA, cells_one hv, astore, List.length_singleton, e1, e2, if_true]
  cases hh : hget s.heap i with
  | none => simp [storeB]
  | some b =>
    by_cases hk : k < b.cells.length
    · simp [storeB, hv, lput_one v b.cells k hk, h0, hk]
    · have : lput b.cells k [v] = none := by
        have key : ∀ (cs : List Value) (k : Nat), ¬ k < cs.length → lput cs k [v] = none := by
          intro cs
          induction cs with
          | nil => intro k _; rfl
          | cons c cs ih =>
            intro k hk
            cases k with
            | zero => simp at hk
            | succ k => simp [lput, ih k (by simpa using hk)]
        exact key _ _ hk
      simp [storeB, hv, this, hk]
theorem storeB_some (cs : List Value) (e g t) (s : St) (i k : Nat) (v : Value) (h0 : s.prot ≤ i) (hv : oneCell v = true) (hk : k < cs.length) :
    storeB (some ⟨cs, e, g, t⟩) s i k v = some (.tuple #[], ⟨hset s.heap i ⟨cs.set k v, e, g, t⟩, s.next, s.prot⟩) := by
  simp [storeB, h0, hv, hk]
theorem one_int (k : IntKind) (z : Int) : oneCell (.int k z) = true := rfl
theorem one_bool (b : Bool) : oneCell (.bool b) = true := rfl
theorem one_string (b : ByteArray) : oneCell (.string b) = true := rfl
theorem one_slice (a n c) : oneCell (.slice a n c) = true := rfl
theorem one_pointer (a) : oneCell (.pointer a) = true := rfl
theorem hset_hset (h : Heap) (i : Nat) (a b : Blk) : hset (hset h i a) i b = hset h i b := by
  induction h with
  | nil => rfl
  | cons p r ih =>
    obtain ⟨k, u⟩ := p
    simp only [hset]
    by_cases hk : i = k
    · rw [if_pos (nbeq.2 hk), if_pos (nbeq.2 hk)]; simp [hset, hk]
    · rw [if_neg (by rw [nbeq]; exact hk), if_neg (by rw [nbeq]; exact hk)]
      simp only [hset]
      rw [if_neg (by rw [nbeq]; exact hk), ih]
def loadB (o : Option Blk) (k : Nat) : Option Value := match o with | some b => lget b.cells k | none => none
theorem loadO_new (old : Nat → Nat → Option Value) (h : Heap) (i k p : Nat) : loadO old h (.pointer (some ⟨i, k, some p⟩)) = loadB (hget h i) k := by
  simp only [loadO, aloadO, loadB]
  cases hget h i <;> rfl
theorem loadB_some (b : Blk) (k : Nat) : loadB (some b) k = lget b.cells k := rfl
theorem lget_map {α : Type} [Inhabited α] (f : α → Value) (l : List α) (k : Nat) (hk : k < l.length) : lget (l.map f) k = some (f l[k]!) := by
  rw [lget_eq, List.getElem?_map, List.getElem?_eq_getElem hk, getElem!_pos l k hk]; rfl

/-! ### slices that grow -/
def delO (h : Heap) : Value → Heap
  | .slice (some ⟨i, _, some _⟩) _ c => if c < big then h else hdel h i
  | _ => h
/-- a slice that an append may move: nil, an empty literal, or one that an append has made -/
structure Own (lo : Nat) (s : St) (t : TypeId) (e : Nat) (v : Value) (n : Nat) (cs : List Value) : Prop where
  is : (v = .slice none 0 0 ∧ n = 0 ∧ cs = []) ∨ ∃ i, lo ≤ i ∧ i < s.next ∧ s.prot ≤ i ∧
    ((v = .slice (some ⟨i, 0, some 0⟩) 0 0 ∧ n = 0 ∧ cs = [] ∧ ∃ b, hget s.heap i = some b) ∨
     (v = .slice (some ⟨i, 0, some 0⟩) n (big + n) ∧ cs.length = n * e ∧ hget s.heap i = some ⟨cs, e, true, t⟩))
section
variable {lo : Nat} {s : St} {t : TypeId} {e : Nat} {v : Value} {n : Nat} {cs : List Value}
theorem Own.nil : Own lo s t e (.slice none 0 0) 0 [] := ⟨Or.inl ⟨rfl, rfl, rfl⟩⟩
theorem Own.mk' {i : Nat} (h1 : lo ≤ i) (h2 : i < s.next) (h3 : s.prot ≤ i) (h4 : cs.length = n * e) (h5 : hget s.heap i = some ⟨cs, e, true, t⟩) : Own lo s t e (.slice (some ⟨i, 0, some 0⟩) n (big + n)) n cs :=
  ⟨Or.inr ⟨i, h1, h2, h3, Or.inr ⟨rfl, h4, h5⟩⟩⟩
theorem Own.bid (o : Own lo s t e v n cs) : bidN v ≤ s.next := by
  rcases o.is with ⟨rfl, _⟩ | ⟨i, _, h, _, ⟨rfl, _⟩ | ⟨rfl, _⟩⟩
  · simp [bidN, bidA]
  · simp [bidN, bidA]; omega
  · simp [bidN, bidA]; omega
theorem Own.bid2 (o : Own lo s t e v n cs) : bidN v = 0 ∨ lo < bidN v := by
  rcases o.is with ⟨rfl, _⟩ | ⟨i, h1, h, _, ⟨rfl, _⟩ | ⟨rfl, _⟩⟩
  · exact Or.inl rfl
  · right; simp [bidN, bidA]; omega
  · right; simp [bidN, bidA]; omega
theorem Own.to (o : Own lo s t e v n cs) {s' : St} (hn : s.next ≤ s'.next) (hp : s'.prot = s.prot) (hh : ∀ i, bidN v = i + 1 → hget s'.heap i = hget s.heap i) : Own lo s' t e v n cs := by
  refine ⟨?_⟩
  rcases o.is with h | ⟨i, h1, h2, h3, ⟨rfl, h4, h5, h6⟩ | ⟨rfl, h4, h5⟩⟩
  · exact Or.inl h
  · exact Or.inr ⟨i, h1, by omega, by omega, Or.inl ⟨rfl, h4, h5, by rw [hh i rfl]; exact h6⟩⟩
  · exact Or.inr ⟨i, h1, by omega, by omega, Or.inr ⟨rfl, h4, by rw [hh i rfl]; exact h5⟩⟩
theorem Own.push (o : Own lo s t e v n cs) (bs : List Blk) {s' : St} (hs : s' = ⟨hpush s.heap s.next bs, s.next + bs.length, s.prot⟩) : Own lo s' t e v n cs := by
  subst hs
  exact o.to (by simp) rfl fun i hi => hget_push_lt _ _ _ _ (by have := o.bid; omega)
theorem Own.app {E : Env} (o : Own lo s t e v n cs) {y : Value} {m b : Nat} {new : List Value} (hy : lenA y = some m) (hm : 1 ≤ m) (hs : srcCells E s.heap e m y = some new) (h1 : new.all oneCell = true)
    (hr : n + m ≤ room) (hrb : (n + m) * b ≤ room) :
    appX E s t e b v y = some (.slice (some ⟨s.next, 0, some 0⟩) (n + m) (big + (n + m)), ⟨hpush (delO s.heap v) s.next [⟨cs ++ new, e, true, t⟩], s.next + 1, s.prot⟩) := by
  have hm0 : Nat.beq m 0 = false := by rw [Bool.eq_false_iff]; exact fun h => by have := nbeq.1 h; omega
  have hbig : room < big := by decide
  rcases o.is with ⟨rfl, rfl, rfl⟩ | ⟨i, g1, g2, g3, ⟨rfl, rfl, rfl, bl, g6⟩ | ⟨rfl, g4, g5⟩⟩
  · have e1 : (Nat.ble (0 + m) room && Nat.ble ((0 + m) * b) room && Nat.blt 0 big && Nat.blt 0 (0 + m)) = true := by simp only [Bool.and_eq_true, Nat.ble_eq, Nat.blt_eq]; omega
    have e2 : srcCells E s.heap e 0 (.slice none 0 0) = some [] := rfl
    simp only [appX, appP, hy, Option.bind_some, hm0, e1, hs, e2, Option.map_some, delO]
    rfl
  · have e1 : (Nat.ble (0 + m) room && Nat.ble ((0 + m) * b) room && Nat.blt 0 big && Nat.blt 0 (0 + m)) = true := by simp only [Bool.and_eq_true, Nat.ble_eq, Nat.blt_eq]; omega
    have e2 : srcCells E s.heap e 0 (.slice (some ⟨i, 0, some 0⟩) 0 0) = some [] := by simp [srcCells, aloadN, g6, ltake]
    simp only [appX, appP, hy, Option.bind_some, hm0, e1, hs, e2, Option.map_some, delO]
    rfl
  · have e1 : (Nat.ble (n + m) room && Nat.ble ((n + m) * b) room && Nat.blt (big + n) big && Nat.blt (big + n) (n + m)) = false := by
      have : Nat.blt (big + n) big = false := by rw [Bool.eq_false_iff]; intro h; rw [Nat.blt_eq] at h; omega
      simp [this]
    have e2 : (Nat.ble (n + m) room && Nat.ble ((n + m) * b) room) = true := by simp only [Bool.and_eq_true, Nat.ble_eq]; omega
    have e3 : Nat.blt (big + n) big = false := by rw [Bool.eq_false_iff]; intro h; rw [Nat.blt_eq] at h; omega
    have e4 : Nat.ble s.prot i = true := by rw [Nat.ble_eq]; exact g3
    have e5 : (true && Nat.beq t t && Nat.beq e e && Nat.beq (0 + n * e) cs.length && Nat.beq (big + n) (big + n)) = true := by simp [g4]
    have e6 : ¬ big + n < big := by omega
    have e7 : aloadN E s.heap ⟨i, 0, some 0⟩ 0 = some [] := by simp [aloadN, g5, ltake]
    simp only [appX, appP, appA, hy, Option.bind_some, hm0, e2, e3, e4, hs, h1, g5, e5, if_true, Bool.false_eq_true, if_false, delO, List.drop_zero, e6]
    simp only [St.push, List.length_singleton, Bool.true_and, Bool.false_and, Bool.false_eq_true, if_false]
theorem Own.app0 {E : Env} (o : Own lo s t e v n cs) {y : Value} {b : Nat} (hy : lenA y = some 0) : appX E s t e b v y = some (v, s) := by
  have hb0 : Nat.beq 0 0 = true := rfl
  rcases o.is with ⟨rfl, rfl, rfl⟩ | ⟨i, g1, g2, g3, ⟨rfl, rfl, rfl, bl, g6⟩ | ⟨rfl, g4, g5⟩⟩
  · simp only [appX, appP, hy, Option.bind_some, hb0, if_true]; rfl
  · simp only [appX, appP, hy, Option.bind_some, hb0, if_true]; rfl
  · have : Nat.ble n (knownCap (big + n)) = true := by
      rw [Nat.ble_eq]; unfold knownCap
      rw [if_neg (by rw [Nat.blt_eq]; omega)]; omega
    simp only [appX, appP, hy, Option.bind_some, hb0, if_true, this]; rfl
/-- an append of one element, as 'append(s, x)' is written -/
theorem Own.app1 {E : Env} (o : Own lo s t 1 v n cs) {b j : Nat} {c : Value} {bl : Blk} (hs : hget s.heap j = some bl) (hc : bl.cells = [c]) (h1 : oneCell c = true) (hr : n + 1 ≤ room) (hrb : (n + 1) * b ≤ room) :
    appX E s t 1 b v (.slice (some ⟨j, 0, some 0⟩) 1 1) = some (.slice (some ⟨s.next, 0, some 0⟩) (n + 1) (big + (n + 1)), ⟨hpush (delO s.heap v) s.next [⟨cs ++ [c], 1, true, t⟩], s.next + 1, s.prot⟩) :=
  o.app rfl (Nat.le_refl _) (by simp [srcCells, aloadN, hs, hc, ltake]) (by simp [h1]) hr hrb
theorem hget_delO (h : Heap) (v : Value) (j : Nat) (hj : ¬ bidN v = j + 1) : hget (delO h v) j = hget h j := by
  unfold delO
  split
  · rename_i i o p n c
    split
    · rfl
    · exact hget_del_ne _ _ _ (by simp [bidN, bidA] at hj; omega)
  · rfl
theorem HX.delO {m : Nat} {h0 h : Heap} (hx : HX m h0 h) {v : Value} (hv : bidN v = 0 ∨ m < bidN v) : HX m h0 (delO h v) := fun j hj => by
  rw [hget_delO _ _ _ (by omega), hx j hj]
/-- behind an append -/
theorem Own.grown {h : Heap} {nx p : Nat} (h4 : cs.length = n * e) (hlo : lo ≤ nx) (hp : p ≤ nx) : Own lo ⟨hpush h nx [⟨cs, e, true, t⟩], nx + 1, p⟩ t e (.slice (some ⟨nx, 0, some 0⟩) n (big + n)) n cs :=
  Own.mk' hlo (Nat.lt_succ_self _) hp h4 (hget_push_one _ _ _ _ rfl)
theorem Own.len (o : Own lo s t e v n cs) : lenX false v = some (.int .i64 n) := by
  rcases o.is with ⟨rfl, rfl, rfl⟩ | ⟨i, g1, g2, g3, ⟨rfl, rfl, rfl, bl, g6⟩ | ⟨rfl, g4, g5⟩⟩ <;> rfl
theorem Own.rd {α : Type} {f : α → Value} {l : List α} {old : Nat → Nat → Option Value} (o : Own lo s t 1 v l.length (l.map f)) : Rd old s.heap f v l := by
  rcases o.is with ⟨rfl, h1, h2⟩ | ⟨i, g1, g2, g3, ⟨rfl, h1, h2, bl, g6⟩ | ⟨rfl, g4, g5⟩⟩
  · have : l = [] := List.length_eq_zero_iff.1 h1
    subst this; exact Rd.nil
  · have : l = [] := List.length_eq_zero_iff.1 h1
    subst this
    exact ⟨Or.inl ⟨_, 0, rfl, by simp, Or.inr ⟨_, rfl, fun j hj => by simp [bidA] at hj; subst hj; exact ⟨bl, g6⟩, fun k hk => by simp at hk⟩⟩⟩
  · exact Rd.newb g5 rfl rfl (by unfold knownCap; rw [if_neg (by rw [Nat.blt_eq]; omega)]; omega)
end

/-! ### what a function returns that appended to a slice of its own -/
def newV (nx n : Nat) : Value := if n = 0 then .slice none 0 0 else .slice (some ⟨nx, 0, some 0⟩) n (big + n)
def newB (t : TypeId) (e n : Nat) (cs : List Value) : List Blk := if n = 0 then [] else [⟨cs, e, true, t⟩]
theorem newB_le (t : TypeId) (e n : Nat) (cs : List Value) : (newB t e n cs).length ≤ 1 := by unfold newB; split <;> simp
theorem newV_bid (nx n : Nat) (t : TypeId) (e : Nat) (cs : List Value) : bidN (newV nx n) ≤ nx + (newB t e n cs).length := by
  unfold newV newB; split <;> simp [bidN, bidA]
theorem newV_bid2 (nx n : Nat) : bidN (newV nx n) = 0 ∨ bidN (newV nx n) = nx + 1 := by
  unfold newV; split <;> simp [bidN, bidA]
theorem Rd.newV {α : Type} {old : Nat → Nat → Option Value} {f : α → Value} (h : Heap) (nx : Nat) (t : TypeId) (l : List α) : Rd old (hpush h nx (newB t 1 l.length (l.map f))) f (newV nx l.length) l := by
  unfold Itp.newV newB
  by_cases h0 : l.length = 0
  · have : l = [] := List.length_eq_zero_iff.1 h0
    subst this; exact Rd.nil
  · rw [if_neg h0, if_neg h0]
    exact Rd.newb (hget_push_one _ _ _ _ rfl) rfl rfl (by unfold knownCap; rw [if_neg (by rw [Nat.blt_eq]; omega)]; omega)
theorem Own.gc {n0 : Nat} {s : St} {t : TypeId} {e : Nat} {v : Value} {n : Nat} {cs : List Value} (o : Own n0 s t e v n cs) (hn : n = 0 → v = .slice none 0 0) (hc : idsL n0 cs = []) :
    gc n0 s.heap v = some (newV n0 n, newB t e n cs) := by
  unfold newV newB
  by_cases h0 : n = 0
  · rw [if_pos h0, if_pos h0, hn h0]; rfl
  · rw [if_neg h0, if_neg h0]
    rcases o.is with ⟨rfl, h1, h2⟩ | ⟨i, g1, g2, g3, ⟨rfl, h1, h2, bl, g6⟩ | ⟨rfl, g4, g5⟩⟩
    · exact (h0 h1).elim
    · exact (h0 h1).elim
    · exact gc_slice g1 g5 hc
theorem Own.gc_int {n0 : Nat} {s : St} {t : TypeId} {e : Nat} {v : Value} {n : Nat} {cs : List Value} (o : Own n0 s t e v n cs) (hn : n = 0 → v = .slice none 0 0) (hc : idsL n0 cs = []) (k : IntKind) (z : Int) :
    Itp.gc n0 s.heap (.tuple [v, .int k z].toArray) = some (.tuple [newV n0 n, .int k z].toArray, newB t e n cs) := by
  unfold newV newB
  by_cases h0 : n = 0
  · rw [if_pos h0, if_pos h0, hn h0]; rfl
  · rw [if_neg h0, if_neg h0]
    rcases o.is with ⟨rfl, h1, h2⟩ | ⟨i, g1, g2, g3, ⟨rfl, h1, h2, bl, g6⟩ | ⟨rfl, g4, g5⟩⟩
    · exact (h0 h1).elim
    · exact (h0 h1).elim
    · exact gc_slice_int g1 g5 hc
/-- such a result, handed on -/
theorem gc_newV {n0 nx n : Nat} {h : Heap} {t : TypeId} {e : Nat} {cs : List Value} (hn : n0 ≤ nx) (hc : idsL n0 cs = []) (k : IntKind) (z : Int) :
    gc n0 (hpush h nx (newB t e n cs)) (.tuple [newV nx n, .int k z].toArray) = some (.tuple [newV n0 n, .int k z].toArray, newB t e n cs) := by
  unfold newV newB
  by_cases h0 : n = 0
  · rw [if_pos h0, if_pos h0, if_pos h0]; rfl
  · rw [if_neg h0, if_neg h0, if_neg h0]
    exact gc_slice_int hn (hget_push_one _ _ _ _ rfl) hc

/-! ### rows that are written out -/
theorem Rd.one {α : Type} {old : Nat → Nat → Option Value} {h : Heap} {f : α → Value} {v : Value} {l : List α} (r : Rd old h f v l) : oneCell v = true := by
  rcases r.is with ⟨a, c, rfl, _⟩ | ⟨rfl, k, b, n, rfl⟩ <;> rfl
theorem row0 (nx : Nat) (t : TypeId) (e : Nat) (z : List Value) : mkRowA nx t e 0 z [] = some (.slice (some ⟨nx, 0, some 0⟩) 0 0, [⟨[], e, false, t⟩]) := rfl
theorem row1 (nx : Nat) (t : TypeId) (z v : Value) (hv : oneCell v = true) : mkRowA nx t 1 1 [z] [(0, 1, v)] = some (.slice (some ⟨nx, 0, some 0⟩) 1 1, [⟨[v], 1, false, t⟩]) := by
  have e : (Nat.beq 1 1 && Nat.ble (0 + 1) 1) = true := rfl
  simp [mkRowA, fillA, rep, cells_one hv, lput]
theorem row2 (nx : Nat) (t : TypeId) (z u v : Value) (hu : oneCell u = true) (hv : oneCell v = true) : mkRowA nx t 1 2 [z] [(0, 1, u), (1, 1, v)] = some (.slice (some ⟨nx, 0, some 0⟩) 2 2, [⟨[u, v], 1, false, t⟩]) := by
  simp [mkRowA, fillA, rep, cells_one hu, cells_one hv, lput]
theorem row3 (nx : Nat) (t : TypeId) (z u v x : Value) (hu : oneCell u = true) (hv : oneCell v = true) (hx : oneCell x = true) : mkRowA nx t 1 3 [z] [(0, 1, u), (1, 1, v), (2, 1, x)] = some (.slice (some ⟨nx, 0, some 0⟩) 3 3, [⟨[u, v, x], 1, false, t⟩]) := by
  simp [mkRowA, fillA, rep, cells_one hu, cells_one hv, cells_one hx, lput]
theorem Own.appRow {lo h nx p t v n cs} (o : Own lo ⟨h, nx, p⟩ t 1 v n cs) {E : Env} {b : Nat} {c : Value} {t' : TypeId} {g : Bool} (h1 : oneCell c = true) (hr : n + 1 ≤ 1099511627776) (hrb : (n + 1) * b ≤ 1099511627776) :
    appX E ⟨hpush h nx [⟨[c], 1, g, t'⟩], nx + 1, p⟩ t 1 b v (.slice (some ⟨nx, 0, some 0⟩) 1 1) =
      some (.slice (some ⟨nx + 1, 0, some 0⟩) (n + 1) (big + (n + 1)), ⟨hpush (delO (hpush h nx [⟨[c], 1, g, t'⟩]) v) (nx + 1) [⟨cs ++ [c], 1, true, t⟩], nx + 1 + 1, p⟩) :=
  (o.push [⟨[c], 1, g, t'⟩] rfl).app1 (hget_push_one _ _ _ _ rfl) rfl h1 hr hrb

/-! ### rows of numbers in place -/
theorem expand_one (n : Nat) (v : Value) : expand [(n, v)] = List.replicate n v := by simp [expand]
theorem rep_one (v : Value) : ∀ n, rep [v] n = List.replicate n v
  | 0 => rfl
  | n + 1 => by simp [rep, rep_one v n, List.replicate_succ]
theorem replicate_int (n : Nat) (z : Int) : List.replicate n (Value.int .i64 z) = (List.replicate n z).map (Value.int .i64) := by simp
theorem replicate_bool (n : Nat) (b : Bool) : List.replicate n (Value.bool b) = (List.replicate n b).map Value.bool := by simp
theorem mkSlice_one (nx : Nat) (t : TypeId) (b : Nat) (v : Value) (k j : IntKind) (l c : Int) (h0 : 0 ≤ l) (h1 : l ≤ c) (h2 : c * b ≤ 1099511627776) (h3 : c ≤ 1099511627776) :
    mkSliceA nx t 1 b [v] (.int k l) (.int j c) = some (.slice (some ⟨nx, 0, some 0⟩) l.toNat c.toNat, [⟨List.replicate c.toNat v, 1, false, t⟩]) := by
  have : (0 ≤ l ∧ l ≤ c ∧ c * b ≤ room ∧ c ≤ room) := ⟨h0, h1, by unfold room; omega, by unfold room; omega⟩
  simp only [mkSliceA, if_pos this, rep_one]
theorem idxS_new (b o : Nat) (sp : Option Nat) (n c : Nat) (k : IntKind) (z : Int) (h0 : 0 ≤ z) (h1 : z < n) : idxSA 1 (.slice (some ⟨b, o, sp⟩) n c) (.int k z) = some (.pointer (some ⟨b, o + z.toNat, sp⟩)) := by
  simp [idxSA, idxNat_in k z n h0 h1, aadd]
theorem idxA_new (b o : Nat) (sp : Option Nat) (n : Nat) (k : IntKind) (z : Int) (h0 : 0 ≤ z) (h1 : z < n) : idxAA n 1 (.pointer (some ⟨b, o, sp⟩)) (.int k z) = some (.pointer (some ⟨b, o + z.toNat, sp⟩)) := by
  simp [idxAA, idxNat_in k z n h0 h1, aadd]
theorem len_slice (a : Option Addr) (n c : Nat) : lenX false (.slice a n c) = some (.int .i64 n) := rfl
theorem hget_set_self (h : Heap) (i : Nat) (b : Blk) : hget (hset h i b) i = (hget h i).map fun _ => b := by
  induction h with
  | nil => rfl
  | cons p r ih =>
    obtain ⟨k, u⟩ := p
    simp only [hset]
    by_cases hk : i = k
    · rw [if_pos (nbeq.2 hk)]; simp [hget, hk]
    · rw [if_neg (by rw [nbeq]; exact hk)]
      simp only [hget]
      rw [if_neg (by rw [nbeq]; exact hk), if_neg (by rw [nbeq]; exact hk), ih]
theorem set_map {α : Type} (f : α → Value) (l : List α) (i : Nat) (x : α) : (l.map f).set i (f x) = (l.set i x).map f := (List.map_set ..).symm
theorem set_int (l : List Int) (i : Nat) (x : Int) : (l.map (Value.int .i64)).set i (.int .i64 x) = (l.set i x).map (Value.int .i64) := (List.map_set ..).symm
theorem set_bool (l : List Bool) (i : Nat) (x : Bool) : (l.map Value.bool).set i (.bool x) = (l.set i x).map Value.bool := (List.map_set ..).symm
theorem get_set_eq {α : Type} [Inhabited α] (l : List α) (i : Nat) (x : α) (h : i < l.length) : (l.set i x)[i]! = x := by
  rw [getElem!_pos (l.set i x) i (by simpa using h)]; simp
theorem get_set_ne {α : Type} [Inhabited α] (l : List α) (i j : Nat) (x : α) (h : ¬ i = j) : (l.set i x)[j]! = l[j]! := by
  simp [List.getElem!_eq_getElem?_getD, h]
theorem list_ext {α : Type} [Inhabited α] {l m : List α} (h : l.length = m.length) (hj : ∀ j, j < l.length → l[j]! = m[j]!) : l = m := by
  apply List.ext_getElem h
  intro j h1 h2
  have := hj j h1
  rwa [getElem!_pos l j h1, getElem!_pos m j h2] at this
theorem get_app_l {α : Type} [Inhabited α] (l m : List α) (i : Nat) (h : i < l.length) : (l ++ m)[i]! = l[i]! := by
  rw [getElem!_pos (l ++ m) i (by simp; omega), getElem!_pos l i h, List.getElem_append_left]
theorem get_app_r {α : Type} [Inhabited α] (l m : List α) (i : Nat) (h : l.length ≤ i) (h2 : i < l.length + m.length) : (l ++ m)[i]! = m[i - l.length]! := by
  rw [getElem!_pos (l ++ m) i (by simp; omega), getElem!_pos m (i - l.length) (by omega), List.getElem_append_right h]
theorem get_rep {α : Type} [Inhabited α] (n i : Nat) (x : α) (h : i < n) : (List.replicate n x)[i]! = x := by
  rw [getElem!_pos (List.replicate n x) i (by simpa using h)]; simp
theorem Rd.newS {α : Type} {old : Nat → Nat → Option Value} {h : Heap} {f : α → Value} {i n e : Nat} {g : Bool} {t : TypeId} {l : List α} (hg : hget h i = some ⟨l.map f, e, g, t⟩) (hn : n = l.length) (hb : n < 4611686018427387904) :
    Rd old h f (.slice (some ⟨i, 0, some 0⟩) n n) l := Rd.newb hg rfl hn (by unfold knownCap; rw [if_pos (by rw [Nat.blt_eq]; exact hb)]; exact Nat.le_refl _)

/-! ### a copy, as 'append([]T{}, xs...)' is written -/
def catV (nx n : Nat) : Value := if n = 0 then .slice (some ⟨nx, 0, some 0⟩) 0 0 else .slice (some ⟨nx + 1, 0, some 0⟩) n (big + n)
theorem catV_bid (nx n : Nat) : bidN (catV nx n) = nx + 1 ∨ bidN (catV nx n) = nx + 2 := by
  unfold catV; split <;> simp [bidN, bidA]
theorem catV_le (nx n : Nat) (t : TypeId) (e : Nat) (cs : List Value) : bidN (catV nx n) ≤ nx + 1 + (newB t e n cs).length := by
  unfold catV newB; split <;> simp [bidN, bidA]
theorem app_cat {α : Type} {E : Env} {h h0 : Heap} {nx p : Nat} {f : α → Value} {v : Value} {l : List α} {t t' : TypeId} {b e : Nat} {g : Bool} (hv : Rd E.old h0 f v l) (hx : bidN v ≤ nx ∧ HX nx h0 h) (hp : p ≤ nx) (hf : ∀ x, oneCell (f x) = true) (hr : l.length ≤ 1099511627776) (hrb : l.length * b ≤ 1099511627776) :
    appX E ⟨hpush h nx [⟨[], e, g, t'⟩], nx + 1, p⟩ t 1 b (.slice (some ⟨nx, 0, some 0⟩) 0 0) v =
      some (catV nx l.length, ⟨hpush (hpush h nx [⟨[], e, g, t'⟩]) (nx + 1) (newB t 1 l.length (l.map f)), nx + 1 + (newB t 1 l.length (l.map f)).length, p⟩) := by
  have hv' : Rd E.old (hpush h nx [⟨[], e, g, t'⟩]) f v l := (hv.hx hx.2 hx.1).push _ hx.1
  have ho : Own p ⟨hpush h nx [⟨[], e, g, t'⟩], nx + 1, p⟩ t 1 (.slice (some ⟨nx, 0, some 0⟩) 0 0) 0 [] := ⟨Or.inr ⟨nx, hp, Nat.lt_succ_self _, hp, Or.inl ⟨rfl, rfl, rfl, _, hget_push_one _ _ _ _ rfl⟩⟩⟩
  by_cases h0 : l.length = 0
  · rw [ho.app0 (by rw [hv'.lenA, h0])]
    simp [catV, newB, h0, hpush]
  · rw [ho.app (m := l.length) (new := l.map f) hv'.lenA (by omega) (by
      have := hv'.src l.length (Nat.le_refl _)
      rw [List.take_length] at this
      rw [← this]
      exact srcCells_old E ⟨fun _ _ _ => none, fun _ _ _ => none, E.old, 0⟩ rfl _ _ _ _) (by simp [hf]) (by unfold room; omega) (by rw [Nat.zero_add]; unfold room; exact hrb)]
    simp [catV, newB, h0, delO, big]
theorem Rd.cat {α : Type} {old : Nat → Nat → Option Value} {h : Heap} {nx : Nat} {f : α → Value} {l : List α} {t t' : TypeId} {e : Nat} {g : Bool} :
    Rd old (hpush (hpush h nx [⟨[], e, g, t'⟩]) (nx + 1) (newB t 1 l.length (l.map f))) f (catV nx l.length) l := by
  unfold catV newB
  by_cases h0 : l.length = 0
  · have : l = [] := List.length_eq_zero_iff.1 h0
    subst this
    simp only [List.length_nil, if_true, hpush_nil]
    exact Rd.newb (hget_push_one _ _ _ _ rfl) rfl rfl (by simp)
  · rw [if_neg h0, if_neg h0]
    exact Rd.newb (hget_push_one _ _ _ _ rfl) rfl rfl (by unfold knownCap; rw [if_neg (by rw [Nat.blt_eq]; omega)]; omega)
theorem app_catO {α : Type} {old : Nat → Nat → Option Value} {h : Heap} {f : α → Value} {v : Value} {l : List α} (hv : Rd old h f v l) (hf : ∀ x, oneCell (f x) = true) {E : Env} {nx p : Nat} {t t' : TypeId} {b e : Nat} {g : Bool} (hE : E.old = old) (hx : bidN v ≤ nx) (hp : p ≤ nx)
    (hr : l.length ≤ 1099511627776) (hrb : l.length * b ≤ 1099511627776) :
    appX E ⟨hpush h nx [⟨[], e, g, t'⟩], nx + 1, p⟩ t 1 b (.slice (some ⟨nx, 0, some 0⟩) 0 0) v =
      some (catV nx l.length, ⟨hpush (hpush h nx [⟨[], e, g, t'⟩]) (nx + 1) (newB t 1 l.length (l.map f)), nx + 1 + (newB t 1 l.length (l.map f)).length, p⟩) := by
  subst hE
  exact app_cat hv ⟨hx, HX.refl _ _⟩ hp hf hr hrb
theorem Rd.newV' {α : Type} {old : Nat → Nat → Option Value} {f : α → Value} {h : Heap} {nx : Nat} {t : TypeId} {l : List α} {n : Nat} (hn : n = l.length) : Rd old (hpush h nx (newB t 1 n (l.map f))) f (Itp.newV nx n) l := by
  subst hn; exact Rd.newV h nx t l
end Go.Itp
/-
  Plain facts on lists, read by numbers.
-/
namespace Go.Itp
section
variable {α : Type} [Inhabited α] [DecidableEq α]
theorem lt_succ_cases {P : Nat → Prop} {k : Nat} (h : ∀ j, j < k → P j) (hk : P k) : ∀ j, j < k + 1 → P j := fun j hj => by
  rcases Nat.lt_succ_iff_lt_or_eq.1 hj with h' | rfl
  · exact h j h'
  · exact hk
/-- the first place of an element among the first ones of a list, or -1 -/
def placeG (l : List α) (x : α) : Nat → Int
  | 0 => -1
  | k + 1 => if 0 ≤ placeG l x k then placeG l x k else if l[k]! = x then k else -1
theorem placeG_none {l : List α} {x : α} : ∀ k, (∀ j, j < k → ¬ l[j]! = x) → placeG l x k = -1
  | 0, _ => rfl
  | k + 1, h => by
    simp only [placeG]
    rw [placeG_none k (fun j hj => h j (by omega)), if_neg (by omega), if_neg (h k (by omega))]
theorem placeG_some {l : List α} {x : α} {i : Nat} (hi : l[i]! = x) (h : ∀ j, j < i → ¬ l[j]! = x) : ∀ k, i < k → placeG l x k = i
  | 0, h => by omega
  | k + 1, hk => by
    simp only [placeG]
    by_cases e : i = k
    · subst e; rw [placeG_none i h, if_neg (by omega), if_pos hi]
    · rw [placeG_some hi h k (by omega), if_pos (by omega)]
theorem placeG_or (l : List α) (x : α) (k : Nat) : (placeG l x k = -1 ∧ ∀ j, j < k → ¬ l[j]! = x) ∨ ∃ i, i < k ∧ placeG l x k = i ∧ l[i]! = x ∧ ∀ j, j < i → ¬ l[j]! = x := by
  induction k with
  | zero => exact Or.inl ⟨rfl, by omega⟩
  | succ k ih =>
    rcases ih with ⟨h1, h2⟩ | ⟨i, h1, h2, h3, h4⟩
    · by_cases hx : l[k]! = x
      · exact Or.inr ⟨k, by omega, placeG_some hx h2 _ (by omega), hx, h2⟩
      · exact Or.inl ⟨placeG_none _ (lt_succ_cases h2 hx), lt_succ_cases h2 hx⟩
    · exact Or.inr ⟨i, by omega, placeG_some h3 h4 _ (by omega), h3, h4⟩
theorem placeG_range (l : List α) (x : α) (k : Nat) : -1 ≤ placeG l x k ∧ placeG l x k < k := by
  rcases placeG_or l x k with ⟨h, _⟩ | ⟨i, h1, h2, _⟩ <;> omega
end
theorem take_succ! {α : Type} [Inhabited α] (l : List α) (k : Nat) (h : k < l.length) : l.take (k + 1) = l.take k ++ [l[k]!] := by
  rw [List.take_succ_eq_append_getElem h, getElem!_pos l k h]
/-! ### bytes -/
theorem idxStr_in (t : ByteArray) (k : IntKind) (z : Int) (h0 : 0 ≤ z) (h1 : z < t.size) : idxStrA (.string t) (.int k z) = some (.int .u8 ((t.data.toList[z.toNat]!).toNat : Nat)) := by
  have hz : z.toNat < t.data.toList.length := by simp; omega
  simp only [idxStrA, idxNat_in k z t.size h0 h1, Option.bind_some, lget_eq, List.getElem?_eq_getElem hz, Option.map_some, getElem!_pos t.data.toList z.toNat hz]
theorem len_string (t : ByteArray) : lenX true (.string t) = some (.int .i64 t.size) := rfl
def vB (b : UInt8) : Value := .int .u8 b.toNat
theorem cellsOfBytes_map (l : List UInt8) : cellsOfBytes l = l.map vB := rfl
def s2bA (nx : Nat) (t : TypeId) : Value → Option (Value × List Blk)
  | .string b => if Nat.ble b.size room then some (.slice (some ⟨nx, 0, some 0⟩) b.size (big + b.size), [⟨cellsOfBytes b.data.toList, 1, true, t⟩]) else none
  | _ => none
theorem q_s2b (E : Env) (fr : Fr) (s : St) (t : TypeId) (x : Operand) : pstep E fr s (.s2b t x) = op1 (s2bA s.next t) (ev fr x) := by
  simp only [pstep, op1]
  cases ev fr x with
  | none => rfl
  | some v => cases v <;> rfl
theorem s_s2b (E : Env) (fr : Fr) (s : St) (t : TypeId) (x : Operand) : step E fr s (.s2b t x) = retB s (op1 (s2bA s.next t) (ev fr x)) := step_eqB E fr s _ _ (q_s2b ..) rfl
theorem s2b_string (nx : Nat) (t : TypeId) (b : ByteArray) (h : b.size ≤ 1099511627776) : s2bA nx t (.string b) = some (.slice (some ⟨nx, 0, some 0⟩) b.size (big + b.size), [⟨b.data.toList.map vB, 1, true, t⟩]) := by
  simp only [s2bA, cellsOfBytes_map]
  rw [if_pos (by rw [Nat.ble_eq]; exact h)]
theorem size_toList (b : ByteArray) : b.data.toList.length = b.size := by simp
/-! ### structures -/
theorem box_agg (nx : Nat) (t : TypeId) (l : List Value) : boxA nx t (.agg l.toArray) = some (.pointer (some ⟨nx, 0, some 0⟩), [⟨l, 1, false, t⟩]) := by
  simp [boxA, Value.cells]
theorem fldA_new (i o p n : Nat) : fldAA n (.pointer (some ⟨i, o, some p⟩)) = some (.pointer (some ⟨i, o + n, some p⟩)) := rfl
def loadN' (o : Option Blk) (k n : Nat) : Option Value := match o with | some b => (ltake (b.cells.drop k) n).map fun l => .agg l.toArray | none => none
theorem loadAgg_new (E : Env) (h : Heap) (n i o p : Nat) : loadA E h (some n) (.pointer (some ⟨i, o, some p⟩)) = loadN' (hget h i) o n := by
  simp only [loadA, loadG, aloadN, loadN']
  cases hget h i <;> rfl
theorem loadN_some (b : Blk) (k n : Nat) : loadN' (some b) k n = (ltake (b.cells.drop k) n).map fun l => .agg l.toArray := rfl
theorem ltake_zero {α : Type} (l : List α) : ltake l 0 = some [] := by cases l <;> rfl
theorem ltake_succ {α : Type} (x : α) (l : List α) (n : Nat) : ltake (x :: l) (n + 1) = (ltake l n).map (x :: ·) := rfl
end Go.Itp
/-
  From the interpreter's answer to a given statement: what an argument reads as, and that it reads so behind the call too.
-/
namespace Go.Itp
open Go.RowKit (Below)
open Go.ChangeShapes Go.WideShapes

/-- types whose values hold no pointer, map, function or interface -/
def flatT (P : Program) : Nat → TypeId → Bool
  | 0, _ => false
  | k + 1, t => match P.underlying t with
    | some .bool => true
    | some (.int _) => true
    | some .string => true
    | some (.slice e) => !(P.cellsOf e == 0) && flatT P k e
    | some (.struct fs) => fs.toList.all fun f => flatT P k f.type
    | some (.array _ e) => flatT P k e
    | _ => false
section
variable {H : Type} {enc : TypeId × Value → H} {P : Program} {w : World} {base : Nat} {held : Bool} {sp : Nat → Bool}
theorem trod_sp : ∀ (k n : Nat) (t : TypeId) (cs : List Value) (x : DataW H × List MemPlace), flatT P k t = true → DataW.trod enc P w base (fun _ => true) held n t cs = some x → (∀ p ∈ x.2, sp p.block = true) →
    DataW.trod enc P w base sp held n t cs = some x
  | 0, _, _, _, _, h, _, _ => by simp [flatT] at h
  | k + 1, 0, _, _, _, _, h, _ => by simp [DataW.trod] at h
  | k + 1, n + 1, t, cs, x, hf, h, hs => by
    have ih := fun t cs x => trod_sp k n t cs x
    rw [DataW.trod_step] at h ⊢
    unfold DataW.trodStep at h ⊢
    unfold flatT at hf
    split at h
    case h_8 e a len cap hu =>
      rw [hu] at hf
      simp only [Bool.and_eq_true, Bool.not_eq_true', beq_eq_false_iff_ne] at hf
      simp only at h ⊢
      split at h
      · rename_i hc
        rw [if_pos hc]
        simp only [Option.map_eq_some_iff, Option.bind_eq_some_iff, if_true] at h ⊢
        obtain ⟨elems, he, rest, hrest, rfl⟩ := h
        have hl1 : elems.length = len := by simpa using mapM_some_length he
        have hl2 : rest.length = cap - len := by simpa using mapM_some_length hrest
        have one : ∀ (a : Addr) (y : DataW H × List MemPlace), y ∈ elems ++ rest → (w.cells? base a (P.cellsOf e)).bind (DataW.trod enc P w base (fun _ => true) held n e) = some y →
            (w.cells? base a (P.cellsOf e)).bind (DataW.trod enc P w base sp held n e) = some y := by
          intro a y hy hv
          simp only [Option.bind_eq_some_iff] at hv ⊢
          obtain ⟨c, hc1, hc2⟩ := hv
          exact ⟨c, hc1, ih _ _ _ hf.2 hc2 fun p hp => hs p (by simp only [List.mem_append, List.mem_flatMap]; exact Or.inr ⟨y, by simpa using hy, hp⟩)⟩
        refine ⟨elems, mapM_carry he fun i y _ hy hv => one _ y (by simp [hy]) hv, rest, ?_, rfl⟩
        by_cases hz : elems.length + rest.length = 0
        · have : rest = [] := List.length_eq_zero_iff.1 (by omega)
          subst this
          have : cap - len = 0 := by simpa using hl2.symm
          rw [this]
          split <;> simp
        · have hb : sp a.block = true := by
            have := hs (.cell a.block (a.off + 0)) (by
              simp only [List.mem_append]
              left
              refine MemPlace.mem_row.2 ⟨0, ?_, rfl⟩
              exact Nat.mul_pos (by omega) (Nat.pos_of_ne_zero hf.1))
            simpa [MemPlace.block] using this
          rw [if_pos hb]
          exact mapM_carry hrest fun j y _ hy hv => one _ y (by simp [hy]) hv
      · cases h
    case h_9 fs hu =>
      rw [hu] at hf
      simp only [List.all_eq_true] at hf
      split at h
      · rename_i hc
        rw [if_pos hc]
        simp only [Option.map_eq_some_iff] at h ⊢
        obtain ⟨xs, hx, rfl⟩ := h
        exact ⟨xs, mapM_carry hx (fun f y hfm hy hv => ih _ _ _ (hf f hfm) hv (fun p hp => hs p (List.mem_flatMap.2 ⟨y, hy, hp⟩))), rfl⟩
      · cases h
    case h_10 m e hu =>
      rw [hu] at hf
      split at h
      · rename_i hc
        rw [if_pos hc]
        simp only [Option.map_eq_some_iff] at h ⊢
        obtain ⟨xs, hx, rfl⟩ := h
        exact ⟨xs, mapM_carry hx (fun f y _ hy hv => ih _ _ _ hf hv (fun p hp => hs p (List.mem_flatMap.2 ⟨y, hy, hp⟩))), rfl⟩
      · cases h
    all_goals first | exact h | (exfalso; simp_all; done) | (simp_all; done)
theorem trodAll_sp (k : Nat) {W W' : World} (hb : Below W.heap.size W W') : ∀ (ts : List TypeId) (vs : List Value) (ds : List (DataW H)) (ps : List MemPlace), ts.all (flatT P k) = true →
    DataW.TrodAll enc P W base (fun _ => true) held ts vs ds ps → (∀ p ∈ ps, p.block < W.heap.size) → (∀ p ∈ ps, sp p.block = true) → DataW.TrodAll enc P W' base sp held ts vs ds ps
  | [], [], [], _, _, h, _, _ => h
  | t :: ts, v :: vs, d :: ds, ps, hf, ⟨p, q, ⟨n, h1⟩, h2, e⟩, hl, hs => by
    subst e
    simp only [List.all_cons, Bool.and_eq_true] at hf
    refine ⟨p, q, ⟨n, ?_⟩, trodAll_sp k hb ts vs ds q hf.2 h2 (fun x hx => hl x (by simp [hx])) (fun x hx => hs x (by simp [hx])), rfl⟩
    refine trod_sp k n _ _ _ hf.1 (DataW.trod_carry n _ _ _ h1 fun x hx => hb.same (hl x ?_)) fun x hx => hs x ?_
    · simp only at hx; simp [hx]
    · simp only at hx; simp [hx]
  | [], _ :: _, _, _, _, h, _, _ => by simp [DataW.TrodAll] at h
  | [], [], _ :: _, _, _, h, _, _ => by simp [DataW.TrodAll] at h
  | _ :: _, [], _, _, _, h, _, _ => by simp [DataW.TrodAll] at h
  | _ :: _, _ :: _, [], _, _, h, _, _ => by simp [DataW.TrodAll] at h
/-- the last step of a law without package variables: true is returned, and what was there reads as it did -/
theorem law_post {f : Func} {s : ChangeSpec} {apart fresh handsOn again : Bool} {W W' : World} {args : Array Value} {ds gs : List (DataW H)} {before : List MemPlace} {rt : TypeId}
    (hW : DataW.Whole enc P f.params.toList s.vars apart W args.toList ds gs before) (hv : s.vars = []) (hfn : s.fn H ds = { results := [.lit (.bool true)], args := ds })
    (hf : f.params.toList.all (flatT P 20) = true) (hr : f.resultTypes = #[rt]) (hrt : P.underlying rt = some .bool) (hb : Below W.heap.size W W') :
    s.post enc P f apart fresh handsOn again W args (.bool true) W' := by
  have hlt : ∀ p ∈ before, p.block < W.heap.size := fun p hp => hW.lt p hp
  have hW' := hW
  obtain ⟨pa, pv, hA, hV, hps, hz, hn⟩ := hW
  rw [hv] at hV
  obtain ⟨rfl, rfl⟩ := trodVars_none hV
  rw [List.append_nil] at hps
  subst hps
  have hd : s.fn H (ds ++ []) = { results := [.lit (.bool true)], args := ds } := by rw [List.append_nil]; exact hfn
  have hres : ∀ (b : Nat) (sp : Nat → Bool) (hd : Bool), DataW.TrodAll enc P W' b sp hd f.resultTypes.toList ((Value.bool true).resultList f.resultTypes.size) (s.fn H (ds ++ [])).results [] := by
    intro b sp hd'
    rw [hr, hd]
    exact ⟨[], [], ⟨1, by simp [DataW.trod, hrt, Value.cells]⟩, rfl, rfl⟩
  have hargs : ∀ sp : Nat → Bool, (∀ p ∈ before, sp p.block = true) → DataW.TrodAll enc P W' 0 sp true f.params.toList args.toList (s.fn H (ds ++ [])).args before := fun sp hsp => by rw [hd]; exact trodAll_sp 20 hb _ _ _ _ hf hA hlt hsp
  have hold : ∀ p ∈ before, (fun b => decide (b < W.heap.size)) p.block = true := fun p hp => by simpa using hlt p hp
  have hvars : ∀ sp, DataW.TrodVars enc P W' sp s.vars (s.fn H (ds ++ [])).vars [] := fun sp => by rw [hv, hd]; rfl
  refine ⟨ds, [], before, [], before, [], hW', hres _ _ _, hargs _ hold, hvars _, World.keptBut_mono (fun p hp => ⟨hp, ?_⟩) (hb.frame (· ∈ before)), fun _ => ?_⟩
  · exact Or.inr (Or.inl hp)
  · refine ⟨?_, _, _, ([] ++ before) ++ [], ⟨[] ++ before, [], trodAll_append (hargs _ (fun _ _ => rfl)) (hres _ _ _), hvars _, rfl, ?_, ?_⟩, ?_⟩
    · intro j t r h1 h2
      rw [hr] at h1 h2
      have hj : j = 0 := by
        rcases Nat.lt_or_ge j 1 with h | h
        · omega
        · rw [Array.getElem?_eq_none (by simpa using h)] at h1; cases h1
      subst hj
      simp at h1 h2
      subst h1
      have h2' : r = .bool true := by
        have : (Value.bool true).resultList 1 = [.bool true] := rfl
        rw [this] at h2; simpa using h2.symm
      subst h2'
      exact Go.RowKit.okWide_bool_mk hrt true
    · intro b off hp
      have hin : MemPlace.cell b off ∈ before := by simpa using hp
      rw [hb.frozen (hlt _ hin)]
      exact hz b off hin
    · intro ha; simpa using hn ha
    · intro p hp _; simpa using hp
end

/-- an argument that is a list of numbers -/
theorem rd_ints {H : Type} {enc : TypeId × Value → H} {P : Program} {W : World} {base b : Nat} {held : Bool} {t e : TypeId} {k : IntKind} {v : Value} {d : DataW H} {ps : List MemPlace} (ht : P.underlying t = some (.slice e)) (he : P.underlying e = some (.int k)) (hc : P.cellsOf e = 1) (hby : 0 < P.bytesOf e)
    (hv : Value.okWide P W .any b t v) (h : DataW.Trod enc P W base (fun _ => true) held t v d ps) (hsz : ∀ n ∈ d.weights P t, n ≤ reachBytes) :
    ∃ l : List Int, (∀ h, Rd (oldOf W) h (Value.int k) v l) ∧ bidN v = 0 ∧ ids 0 v = [] ∧ (∀ x ∈ l, (Lit.int k x).wf = true) ∧ l.length * P.bytesOf e ≤ reachBytes := by
  obtain ⟨n, hn⟩ := h
  have hone : v.cells.toList = [v] := cells_one (by
    unfold Value.okWide at hv
    rw [ht] at hv
    simp only [Cell.okWide, ht, Cell.ok] at hv
    cases v <;> first | rfl | (exfalso; simp at hv))
  rw [hone] at hn
  rcases open_ints ht he hc hn with ⟨h1, _⟩ | ⟨a, len, cap, zs, h1, _, hl, hm, hz, hx, hcell, hw⟩
  · simp only [List.cons.injEq, and_true] at h1
    subst h1
    exact ⟨[], fun h => Rd.nil, rfl, rfl, by simp, by simp⟩
  · simp only [List.cons.injEq, and_true] at h1
    subst h1
    have hsp : a.spot = none := by
      unfold Value.okWide at hv
      rw [ht] at hv
      simp only [Cell.okWide, ht, Cell.ok] at hv
      exact hv.2.2.2.1
    obtain ⟨b, o, s⟩ := a
    simp only at hsp
    subst hsp
    simp only [if_true] at hz
    have hlen : len ≤ zs.length := by omega
    simp only [Prod.mk.injEq] at hx
    have hmax : cap * P.bytesOf e ≤ reachBytes := by
      have := hsz ((lits (H := H) k (zs.take len)).length + (lits (H := H) k (zs.drop len)).length |> (· * P.bytesOf e)) (by rw [hx.1]; simp [DataW.weights, ht])
      simp only [lits, List.length_map, List.length_take, List.length_drop] at this
      rw [show min len zs.length + (zs.length - len) = cap by omega] at this
      exact this
    have hcap : cap ≤ cap * P.bytesOf e := Nat.le_mul_of_pos_right _ hby
    have hbig : reachBytes < big := by decide
    refine ⟨zs.take len, fun h => ⟨Or.inl ⟨_, cap, by rw [List.length_take, Nat.min_eq_left hlen], ?_, Or.inr ⟨_, rfl, fun i hi => by simp [bidA] at hi, fun j hj => ?_⟩⟩⟩, rfl, rfl, fun x hx => hw x (List.mem_of_mem_take hx), ?_⟩
    · rw [List.length_take, Nat.min_eq_left hlen]
      unfold knownCap
      rw [if_pos (by rw [Nat.blt_eq]; omega)]
      exact hl
    · have hj' : j < zs.length := by simp at hj; omega
      have := hcell j hj'
      rw [add_plain] at this
      simp only [aloadO, aadd]
      rw [oldOf_some this rfl]
      simp [List.getD_eq_getElem?_getD, hj']
    · rw [List.length_take, Nat.min_eq_left hlen]
      exact Nat.le_trans (Nat.mul_le_mul_right _ hl) hmax
end Go.Itp
/-
  Arguments of more kinds: lists of strings, of bools, of lists; structures of such.
-/
namespace Go.Itp
open Go.ChangeShapes Go.WideShapes

/-- what the interpreter holds in place of what a cell of old memory holds -/
def absV : Value → Value
  | .slice (some ⟨b, o, some k⟩) 0 0 => .complex .f32 b (enc2 o k)
  | v => v
theorem Rd.of_map {α : Type} {old : Nat → Nat → Option Value} {h : Heap} {f : α → Value} {v : Value} {l : List α} (r : Rd old h (fun x : Value => x) v (l.map f)) : Rd old h f v l := by
  rcases r.is with ⟨a, c, rfl, h1, h2⟩ | ⟨h1, h2⟩
  · refine ⟨Or.inl ⟨a, c, by simp, by simpa using h1, ?_⟩⟩
    rcases h2 with ⟨rfl, h2⟩ | ⟨ad, rfl, h2, h3⟩
    · exact Or.inl ⟨rfl, by simpa using h2⟩
    · exact Or.inr ⟨ad, rfl, h2, fun k hk => by have := h3 k (by simpa using hk); simpa using this⟩
  · exact ⟨Or.inr ⟨by simpa using h1, h2⟩⟩
section
variable {H : Type} {enc : TypeId × Value → H} {P : Program} {W : World} {base : Nat} {held : Bool}
/-- a slice whose elements lie in one cell each -/
theorem rd_raw {t e : TypeId} {fuel : Nat} {v : Value} {x : DataW H × List MemPlace} (ht : P.underlying t = some (.slice e)) (hc : P.cellsOf e = 1) (hby : 0 < P.bytesOf e)
    (h : DataW.trod enc P W base (fun _ => true) held fuel t [v] = some x) (hsz : ∀ n ∈ x.1.weights P t, n ≤ reachBytes)
    (habs : ∀ (c : Value) (n : Nat) (y : DataW H × List MemPlace), DataW.trod enc P W base (fun _ => true) held n e [c] = some y → ∀ b o, W.cell? ⟨b, o, none⟩ = some c → oldOf W b o = some (absV c)) :
    ∃ cs : List Value, (∀ h, Rd (oldOf W) h (fun x : Value => x) (absV v) (cs.map absV)) ∧ bidN (absV v) = 0 ∧ (∀ c ∈ cs, ∃ n y, DataW.trod enc P W base (fun _ => true) held n e [c] = some y ∧ ∀ m ∈ y.1.weights P e, m ≤ reachBytes) ∧ cs.length * P.bytesOf e ≤ reachBytes := by
  rcases DataW.trod_slice ht h with ⟨h1, _⟩ | ⟨a, len, cap, elems, rest, n, rfl, h1, rfl, hb, hl, hm, hlen, hel, hsp, _⟩
  · simp only [List.cons.injEq, and_true] at h1
    subst h1
    exact ⟨[], fun h => Rd.nil, rfl, by simp, by simp⟩
  · simp only [List.cons.injEq, and_true] at h1
    subst h1
    obtain ⟨hr1, hr2⟩ := hsp rfl
    have hmax : cap * P.bytesOf e ≤ reachBytes := by
      have := hsz ((elems.length + rest.length) * P.bytesOf e) (by simp [DataW.weights, ht])
      rwa [show elems.length + rest.length = cap by omega] at this
    have hcap : cap ≤ cap * P.bytesOf e := Nat.le_mul_of_pos_right _ hby
    have hbig : reachBytes < big := by decide
    have hone : ∀ i, i < len → ∃ c y, W.cell? (a.add i) = some c ∧ DataW.trod enc P W base (fun _ => true) held n e [c] = some y ∧ elems[i]? = some y := fun i hi => by
      have := hel i hi
      rw [hc, Nat.mul_one, List.getElem?_eq_getElem (by omega)] at this
      simp only [Option.bind_eq_some_iff] at this
      obtain ⟨cs, h2, h3⟩ := this
      unfold World.cells? at h2
      split at h2
      · simp only [List.range_one, List.mapM_cons, List.mapM_nil] at h2
        cases hq : W.cell? ((a.add i).add 0) with
        | none => rw [hq] at h2; cases h2
        | some c =>
          rw [hq] at h2
          have e0 : (a.add i).add 0 = a.add i := rfl
          rw [e0] at hq
          have : cs = [c] := by simpa using h2.symm
          subst this
          exact ⟨c, elems[i], hq, h3, List.getElem?_eq_getElem (by omega)⟩
      · cases h2
    by_cases hz : cap = 0
    · have hl0 : len = 0 := by omega
      subst hz hl0
      refine ⟨[], fun h => ?_, ?_, by simp, by simp⟩
      · obtain ⟨b, o, sp⟩ := a
        cases sp with
        | none => exact ⟨Or.inl ⟨some ⟨b, o, none⟩, 0, rfl, by simp, Or.inr ⟨⟨b, o, none⟩, rfl, fun i hi => by simp [bidA] at hi, fun k hk => by simp at hk⟩⟩⟩
        | some k => exact Rd.odd _ _ _
      · obtain ⟨b, o, sp⟩ := a
        cases sp <;> rfl
    · have habsv : absV (.slice (some a) len cap) = .slice (some a) len cap := by
        obtain ⟨b, o, sp⟩ := a
        cases sp with
        | none => rfl
        | some k =>
          unfold absV
          split
          · rename_i heq
            simp only [Value.slice.injEq] at heq
            exact (hz heq.2.2).elim
          · rfl
      have hspot : a.spot = none := by
        have hcell : ∃ c, W.cell? (a.add 0) = some c := by
          by_cases h0 : 0 < len
          · obtain ⟨c, _, h, _⟩ := hone 0 h0; exact ⟨c, h⟩
          · have := hr2 0 (by omega)
            rw [hc, Nat.mul_one, List.getElem?_eq_getElem (by omega)] at this
            simp only [Option.bind_eq_some_iff] at this
            obtain ⟨cs, h2, _⟩ := this
            unfold World.cells? at h2
            split at h2
            · simp only [List.range_one, List.mapM_cons, List.mapM_nil] at h2
              cases hq : W.cell? ((a.add (len + 0)).add 0) with
              | none => rw [hq] at h2; cases h2
              | some c => exact ⟨c, by rw [show len + 0 = 0 by omega] at hq; exact hq⟩
            · cases h2
        obtain ⟨c, hcell⟩ := hcell
        rw [show a.add 0 = a from rfl] at hcell
        cases hsp : a.spot with
        | none => rfl
        | some s =>
          simp only [World.cell?] at hcell
          split at hcell
          · simp [hsp] at hcell
          · cases hcell
      rw [habsv]
      obtain ⟨b, o, sp⟩ := a
      simp only at hspot
      subst hspot
      let cs := (List.range len).map fun i => (W.cell? ⟨b, o + i, none⟩).getD undef
      have hcs : ∀ i (hi : i < len), W.cell? ⟨b, o + i, none⟩ = some (cs[i]?.getD undef) ∧ ∃ y, DataW.trod enc P W base (fun _ => true) held n e [cs[i]?.getD undef] = some y ∧ elems[i]? = some y := fun i hi => by
        obtain ⟨c, y, h2, h3, h4⟩ := hone i hi
        rw [add_plain] at h2
        have : cs[i]?.getD undef = c := by simp [cs, hi, h2]
        rw [this]
        exact ⟨h2, y, h3, h4⟩
      have hlc : cs.length = len := by simp [cs]
      refine ⟨cs, fun h => ⟨Or.inl ⟨some ⟨b, o, none⟩, cap, by simp [hlc], ?_, Or.inr ⟨⟨b, o, none⟩, rfl, fun i hi => by simp [bidA] at hi, fun k hk => ?_⟩⟩⟩, rfl, fun c hc' => ?_, ?_⟩
      · unfold knownCap
        rw [if_pos (by rw [Nat.blt_eq]; omega)]
        simpa [hlc] using hl
      · have hk' : k < len := by simpa [hlc] using hk
        obtain ⟨h2, y, h3, _⟩ := hcs k hk'
        have := habs _ _ _ h3 _ _ h2
        simp only [aloadO, aadd]
        rw [this]
        have hkc : k < cs.length := by omega
        simp [hkc]
      · obtain ⟨i, hi, rfl⟩ := List.getElem_of_mem hc'
        obtain ⟨_, y, h3, h4⟩ := hcs i (by omega)
        refine ⟨n, y, by simpa [hi] using h3, fun m hm' => hsz m ?_⟩
        have hmem : y ∈ elems := List.mem_of_getElem? h4
        simp only [DataW.weights, ht, List.mem_cons, List.mem_append]
        right; left
        clear hsz
        have : ∀ l : List (DataW H × List MemPlace), y ∈ l → m ∈ DataW.weightsAll P e (l.map (·.1)) := by
          intro l
          induction l with
          | nil => intro h; cases h
          | cons z l ih =>
            intro hz'
            simp only [List.map_cons, DataW.weightsAll, List.mem_append]
            rcases List.mem_cons.1 hz' with rfl | hz'
            · exact Or.inl hm'
            · exact Or.inr (ih hz')
        exact this elems hmem
      · rw [hlc]
        exact Nat.le_trans (Nat.mul_le_mul_right _ hl) hmax
theorem abs_plain {b o : Nat} {c : Value} (h : W.cell? ⟨b, o, none⟩ = some c) (hid : ids 0 c = []) (ha : absV c = c) : oldOf W b o = some (absV c) := by
  rw [ha]; exact oldOf_some h hid
theorem map_of {α : Type} (f : α → Value) : ∀ (cs : List Value), (∀ c ∈ cs, ∃ a, c = f a ∧ absV (f a) = f a) → ∃ l : List α, cs.map absV = l.map f ∧ cs = l.map f
  | [], _ => ⟨[], rfl, rfl⟩
  | c :: cs, h => by
    obtain ⟨a, rfl, ha⟩ := h c (by simp)
    obtain ⟨l, h1, h2⟩ := map_of f cs fun c hc => h c (by simp [hc])
    exact ⟨a :: l, by simp [ha, h1], by simp [h2]⟩
/-- a list of strings -/
theorem rd_strings' {t e : TypeId} {fuel : Nat} {v : Value} {x : DataW H × List MemPlace} (ht : P.underlying t = some (.slice e)) (he : P.underlying e = some .string) (hc : P.cellsOf e = 1) (hby : 0 < P.bytesOf e)
    (h : DataW.trod enc P W base (fun _ => true) held fuel t [v] = some x) (hsz : ∀ n ∈ x.1.weights P t, n ≤ reachBytes) :
    ∃ l : List ByteArray, (∀ h, Rd (oldOf W) h Value.string (absV v) l) ∧ bidN (absV v) = 0 ∧ (∀ j, j < l.length → l[j]!.size ≤ reachBytes) ∧ l.length * P.bytesOf e ≤ reachBytes := by
  obtain ⟨cs, h1, h2, h3, h4⟩ := rd_raw ht hc hby h hsz fun c n y hy b o hcell => by
    obtain ⟨s, h5, _⟩ := DataW.trod_string he hy
    simp only [List.cons.injEq, and_true] at h5
    subst h5
    exact abs_plain hcell rfl rfl
  have hstr : ∀ c ∈ cs, ∃ s : ByteArray, c = .string s ∧ s.size ≤ reachBytes := fun c hc' => by
    obtain ⟨n, y, hy, hw⟩ := h3 c hc'
    obtain ⟨s, h5, h6, _⟩ := DataW.trod_string he hy
    simp only [List.cons.injEq, and_true] at h5
    subst h6
    exact ⟨s, h5, by have := hw s.data.toList.length (by simp [DataW.weights]); simpa using this⟩
  obtain ⟨l, hl1, hl2⟩ := map_of Value.string cs fun c hc' => by
    obtain ⟨s, h5, _⟩ := hstr c hc'
    exact ⟨s, h5, rfl⟩
  refine ⟨l, fun h => Rd.of_map (by rw [← hl1]; exact h1 h), h2, fun j hj => ?_, by rw [hl2] at h4; simpa using h4⟩
  have hm : Value.string l[j]! ∈ cs := by rw [hl2, getElem!_pos l j hj]; exact List.mem_map_of_mem (List.getElem_mem hj)
  obtain ⟨s, h5, h6⟩ := hstr _ hm
  cases h5
  exact h6
/-- a list of numbers -/
theorem rd_ints' {t e : TypeId} {k : IntKind} {fuel : Nat} {v : Value} {x : DataW H × List MemPlace} (ht : P.underlying t = some (.slice e)) (he : P.underlying e = some (.int k)) (hc : P.cellsOf e = 1) (hby : 0 < P.bytesOf e)
    (h : DataW.trod enc P W base (fun _ => true) held fuel t [v] = some x) (hsz : ∀ n ∈ x.1.weights P t, n ≤ reachBytes) :
    ∃ l : List Int, (∀ h, Rd (oldOf W) h (Value.int k) (absV v) l) ∧ bidN (absV v) = 0 ∧ (∀ z ∈ l, (Lit.int k z).wf = true) ∧ l.length * P.bytesOf e ≤ reachBytes := by
  obtain ⟨cs, h1, h2, h3, h4⟩ := rd_raw ht hc hby h hsz fun c n y hy b o hcell => by
    obtain ⟨s, h5, _⟩ := DataW.trod_int he hy
    simp only [List.cons.injEq, and_true] at h5
    subst h5
    exact abs_plain hcell rfl rfl
  have hstr : ∀ c ∈ cs, ∃ z : Int, c = .int k z ∧ (Lit.int k z).wf = true := fun c hc' => by
    obtain ⟨n, y, hy, _⟩ := h3 c hc'
    obtain ⟨s, h5, h6, h7⟩ := DataW.trod_int he hy
    simp only [List.cons.injEq, and_true] at h5
    exact ⟨s, h5, h7⟩
  obtain ⟨l, hl1, hl2⟩ := map_of (Value.int k) cs fun c hc' => by
    obtain ⟨s, h5, _⟩ := hstr c hc'
    exact ⟨s, h5, rfl⟩
  refine ⟨l, fun h => Rd.of_map (by rw [← hl1]; exact h1 h), h2, fun z hz => ?_, by rw [hl2] at h4; simpa using h4⟩
  obtain ⟨s, h5, h6⟩ := hstr (.int k z) (by rw [hl2]; exact List.mem_map_of_mem hz)
  cases h5
  exact h6
/-- a list of lists of numbers -/
theorem rd_rows {t e q : TypeId} {k : IntKind} {fuel : Nat} {v : Value} {x : DataW H × List MemPlace} (ht : P.underlying t = some (.slice e)) (he : P.underlying e = some (.slice q)) (hq : P.underlying q = some (.int k)) (hc : P.cellsOf e = 1) (hby : 0 < P.bytesOf e)
    (hcq : P.cellsOf q = 1) (hbq : 0 < P.bytesOf q) (h : DataW.trod enc P W base (fun _ => true) held fuel t [v] = some x) (hsz : ∀ n ∈ x.1.weights P t, n ≤ reachBytes) :
    ∃ (rs : List Value) (L : List (List Int)), (∀ h, Rd (oldOf W) h (fun x : Value => x) (absV v) rs) ∧ bidN (absV v) = 0 ∧ rs.length = L.length ∧ rs.length * P.bytesOf e ≤ reachBytes ∧
      ∀ j, j < L.length → (∀ h, Rd (oldOf W) h (Value.int k) rs[j]! L[j]!) ∧ bidN rs[j]! = 0 ∧ (∀ z ∈ L[j]!, (Lit.int k z).wf = true) ∧ L[j]!.length * P.bytesOf q ≤ reachBytes := by
  obtain ⟨cs, h1, h2, h3, h4⟩ := rd_raw ht hc hby h hsz fun c n y hy b o hcell => by
    rcases DataW.trod_slice he hy with ⟨h5, _⟩ | ⟨a, len, cap, elems, rest, n', rfl, h5, rfl, hb, hl, hm, hlen, hel, hsp, _⟩
    · simp only [List.cons.injEq, and_true] at h5
      subst h5
      exact abs_plain hcell rfl rfl
    · simp only [List.cons.injEq, and_true] at h5
      subst h5
      obtain ⟨hr1, hr2⟩ := hsp rfl
      obtain ⟨b', o', sp⟩ := a
      cases sp with
      | none => exact abs_plain hcell rfl rfl
      | some s =>
        by_cases hz : cap = 0
        · have hl0 : len = 0 := by omega
          subst hz hl0
          exact oldOf_odd hcell
        · exfalso
          have hcell0 : ∃ c, W.cell? (⟨b', o', some s⟩ : Addr) = some c := by
            by_cases h0 : 0 < len
            · have := hel 0 h0
              rw [hcq, Nat.mul_one, List.getElem?_eq_getElem (by omega)] at this
              simp only [Option.bind_eq_some_iff] at this
              obtain ⟨cs, h6, _⟩ := this
              unfold World.cells? at h6
              split at h6
              · simp only [List.range_one, List.mapM_cons, List.mapM_nil] at h6
                cases hq' : W.cell? (((⟨b', o', some s⟩ : Addr).add 0).add 0) with
                | none => rw [hq'] at h6; cases h6
                | some c => exact ⟨c, hq'⟩
              · cases h6
            · have := hr2 0 (by omega)
              rw [hcq, Nat.mul_one, List.getElem?_eq_getElem (by omega), show len + 0 = 0 by omega] at this
              simp only [Option.bind_eq_some_iff] at this
              obtain ⟨cs, h6, _⟩ := this
              unfold World.cells? at h6
              split at h6
              · simp only [List.range_one, List.mapM_cons, List.mapM_nil] at h6
                cases hq' : W.cell? (((⟨b', o', some s⟩ : Addr).add 0).add 0) with
                | none => rw [hq'] at h6; cases h6
                | some c => exact ⟨c, hq'⟩
              · cases h6
          obtain ⟨c, hcell0⟩ := hcell0
          simp only [World.cell?] at hcell0
          split at hcell0
          · simp at hcell0
          · cases hcell0
  have each : ∀ cs : List Value, (∀ c ∈ cs, ∃ n y, DataW.trod enc P W base (fun _ => true) held n e [c] = some y ∧ ∀ m ∈ y.1.weights P e, m ≤ reachBytes) →
      ∃ L : List (List Int), cs.length = L.length ∧ ∀ j, j < L.length → (∀ h, Rd (oldOf W) h (Value.int k) (cs.map absV)[j]! L[j]!) ∧ bidN (cs.map absV)[j]! = 0 ∧ (∀ z ∈ L[j]!, (Lit.int k z).wf = true) ∧ L[j]!.length * P.bytesOf q ≤ reachBytes := by
    intro cs
    induction cs with
    | nil => intro _; exact ⟨[], rfl, fun j hj => by simp at hj⟩
    | cons c cs ih =>
      intro hall
      obtain ⟨L, hL1, hL2⟩ := ih fun c hc => hall c (by simp [hc])
      obtain ⟨n, y, hy, hw⟩ := hall c (by simp)
      obtain ⟨l, l1, l2, l3, l4⟩ := rd_ints' he hq hcq hbq hy hw
      refine ⟨l :: L, by simp [hL1], fun j hj => ?_⟩
      cases j with
      | zero => exact ⟨by simpa using l1, by simpa using l2, by simpa using l3, by simpa using l4⟩
      | succ j => simpa using hL2 j (by simpa using hj)
  obtain ⟨L, hL1, hL2⟩ := each cs h3
  exact ⟨cs.map absV, L, h1, h2, by simp [hL1], by simpa using h4, hL2⟩
end
section
variable {H : Type} {enc : TypeId × Value → H} {P : Program} {W : World} {base : Nat} {held : Bool}
theorem okWide_spot {r : Reach} {b : Nat} {u : TypeId} {a : Addr} {n c : Nat} (h : Cell.okWide P W r b u (.slice (some a) n c)) : a.spot = none := by
  unfold Cell.okWide at h
  split at h
  all_goals first | (rename_i heq; cases heq; done) | skip
  unfold Cell.ok at h
  split at h
  all_goals first | (rename_i heq; cases heq; done) | skip
  · rename_i e a' len cap _ heq
    cases heq
    exact h.2.2.2.1
  · exact h.elim
theorem abs_ok {r : Reach} {b : Nat} {u : TypeId} {v : Value} (h : Cell.okWide P W r b u v) : absV v = v := by
  unfold absV
  split
  · rename_i b' o k
    have := okWide_spot h
    cases this
  · rfl
/-- an argument that is a structure of three parts, of one cell each -/
theorem open_three {t : TypeId} {f0 f1 f2 : Field} {b : Nat} {v : Value} {d : DataW H} {ps : List MemPlace} (ht : P.underlying t = some (.struct #[f0, f1, f2])) (o0 : f0.offset = 0) (o1 : f1.offset = 1) (o2 : f2.offset = 2)
    (c0 : P.cellsOf f0.type = 1) (c1 : P.cellsOf f1.type = 1) (c2 : P.cellsOf f2.type = 1) (ct : P.cellsOf t = 3) (hv : Value.okWide P W .any b t v) (h : DataW.Trod enc P W base (fun _ => true) held t v d ps) (hsz : ∀ n ∈ d.weights P t, n ≤ reachBytes) :
    ∃ (n : Nat) (a0 a1 a2 : Value) (y0 y1 y2 : DataW H × List MemPlace), v = .agg [a0, a1, a2].toArray ∧ absV a0 = a0 ∧ absV a1 = a1 ∧ absV a2 = a2 ∧
      DataW.trod enc P W base (fun _ => true) held n f0.type [a0] = some y0 ∧ DataW.trod enc P W base (fun _ => true) held n f1.type [a1] = some y1 ∧ DataW.trod enc P W base (fun _ => true) held n f2.type [a2] = some y2 ∧
      (∀ m ∈ y0.1.weights P f0.type, m ≤ reachBytes) ∧ (∀ m ∈ y1.1.weights P f1.type, m ≤ reachBytes) ∧ ∀ m ∈ y2.1.weights P f2.type, m ≤ reachBytes := by
  unfold Value.okWide at hv
  rw [ht] at hv
  obtain ⟨cs, rfl, hcs, ts, _, _, hrow⟩ := hv
  rw [ct] at hcs
  obtain ⟨l⟩ := cs
  simp only [List.size_toArray] at hcs
  obtain ⟨a0, a1, a2, rfl⟩ : ∃ a0 a1 a2, l = [a0, a1, a2] := by
    rcases l with _ | ⟨a0, _ | ⟨a1, _ | ⟨a2, _ | ⟨a3, l⟩⟩⟩⟩ <;> simp at hcs
    exact ⟨a0, a1, a2, rfl⟩
  obtain ⟨n, hn⟩ := h
  cases n with
  | zero => simp [DataW.trod] at hn
  | succ n =>
    have habs : ∀ i c, ([a0, a1, a2] : List Value)[i]? = some c → absV c = c := fun i c hc => by
      obtain ⟨u, _, hu⟩ := hrow i c (by simpa using hc)
      exact abs_ok hu
    unfold DataW.trod at hn
    simp only [ht, Value.cells] at hn
    rw [if_pos (by simp [ct])] at hn
    simp only [Option.map_eq_some_iff, List.mapM_cons, List.mapM_nil] at hn
    obtain ⟨xs, hx, hd⟩ := hn
    simp only [o0, o1, o2, c0, c1, c2, List.drop_zero, List.drop_succ_cons, List.take_succ_cons, List.take_zero] at hx
    cases h0 : DataW.trod enc P W base (fun _ => true) held n f0.type [a0] with
    | none => simp [h0] at hx
    | some y0 =>
      cases h1 : DataW.trod enc P W base (fun _ => true) held n f1.type [a1] with
      | none => simp [h0, h1] at hx
      | some y1 =>
        cases h2 : DataW.trod enc P W base (fun _ => true) held n f2.type [a2] with
        | none => simp [h0, h1, h2] at hx
        | some y2 =>
          have hxs : xs = [y0, y1, y2] := by simpa [h0, h1, h2] using hx.symm
          subst hxs
          simp only [Prod.mk.injEq] at hd
          obtain ⟨rfl, rfl⟩ := hd
          have hw : ∀ m, (m ∈ y0.1.weights P f0.type ∨ m ∈ y1.1.weights P f1.type ∨ m ∈ y2.1.weights P f2.type) → m ≤ reachBytes := fun m hm => hsz m (by
            simp only [DataW.weights, ht, List.map_cons, List.map_nil, DataW.weightsEach, List.mem_append]
            rcases hm with hm | hm | hm
            · exact Or.inl hm
            · exact Or.inr (Or.inl hm)
            · exact Or.inr (Or.inr (Or.inl hm)))
          exact ⟨n, a0, a1, a2, y0, y1, y2, rfl, habs 0 _ rfl, habs 1 _ rfl, habs 2 _ rfl, h0, h1, h2, fun m hm => hw m (Or.inl hm), fun m hm => hw m (Or.inr (Or.inl hm)), fun m hm => hw m (Or.inr (Or.inr hm))⟩
theorem abs_ids {a : Value} (h : absV a = a) (hb : bidN a = 0) (hs : ∃ x y z, a = .slice x y z) : ids 0 a = [] := by
  obtain ⟨x, y, z, rfl⟩ := hs
  rcases x with _ | ⟨b, o, _ | k⟩
  · rfl
  · rfl
  · simp [bidN, bidA] at hb
end
section
variable {H : Type} {enc : TypeId × Value → H} {P : Program} {W : World} {base : Nat} {held : Bool}
theorem trod_is_slice {t e : TypeId} {n : Nat} {v : Value} {x : DataW H × List MemPlace} (ht : P.underlying t = some (.slice e)) (h : DataW.trod enc P W base (fun _ => true) held n t [v] = some x) : ∃ a b c, v = .slice a b c := by
  rcases DataW.trod_slice ht h with ⟨h1, _⟩ | ⟨a, len, cap, _, _, _, _, h1, _⟩
  · exact ⟨_, _, _, by simpa using h1⟩
  · exact ⟨_, _, _, by simpa using h1⟩
theorem okWide_one {t : TypeId} {b : Nat} {v : Value} (ht : ∀ fs, P.underlying t ≠ some (.struct fs)) (ht' : ∀ n e, P.underlying t ≠ some (.array n e)) (hv : Value.okWide P W .any b t v) : Cell.okWide P W .any b t v := by
  unfold Value.okWide at hv
  split at hv
  · rename_i fs h; exact (ht fs h).elim
  · rename_i n e h; exact (ht' n e h).elim
  · exact hv
theorem open_str {t : TypeId} {b : Nat} {v : Value} {d : DataW H} {ps : List MemPlace} (ht : P.underlying t = some .string) (hv : Value.okWide P W .any b t v) (h : DataW.Trod enc P W base (fun _ => true) held t v d ps) (hsz : ∀ n ∈ d.weights P t, n ≤ reachBytes) :
    ∃ s : ByteArray, v = .string s ∧ s.size ≤ reachBytes := by
  have hc := okWide_one (by simp [ht]) (by simp [ht]) hv
  obtain ⟨n, hn⟩ := h
  obtain ⟨s, h1, h2, _⟩ := DataW.trod_string ht hn
  have hv' : v = .string s := by
    unfold Cell.okWide at hc
    simp only [ht, Cell.ok] at hc
    cases v <;> first | (exfalso; simp at hc; done) | (simpa [Value.cells] using h1)
  simp only [Prod.mk.injEq] at h2
  exact ⟨s, hv', by have := hsz s.data.toList.length (by rw [h2.1]; simp [DataW.weights]); simpa using this⟩
theorem open_num {t : TypeId} {k : IntKind} {b : Nat} {v : Value} {d : DataW H} {ps : List MemPlace} (ht : P.underlying t = some (.int k)) (hv : Value.okWide P W .any b t v) (h : DataW.Trod enc P W base (fun _ => true) held t v d ps) :
    ∃ z : Int, v = .int k z ∧ (Lit.int k z).wf = true := by
  have hc := okWide_one (by simp [ht]) (by simp [ht]) hv
  obtain ⟨n, hn⟩ := h
  obtain ⟨z, h1, _, h2⟩ := DataW.trod_int ht hn
  refine ⟨z, ?_, h2⟩
  unfold Cell.okWide at hc
  simp only [ht, Cell.ok] at hc
  cases v <;> first | (exfalso; simp at hc; done) | (simpa [Value.cells] using h1)
theorem open_flag {t : TypeId} {b : Nat} {v : Value} {d : DataW H} {ps : List MemPlace} (ht : P.underlying t = some .bool) (hv : Value.okWide P W .any b t v) (h : DataW.Trod enc P W base (fun _ => true) held t v d ps) :
    ∃ z : Bool, v = .bool z := by
  have hc := okWide_one (by simp [ht]) (by simp [ht]) hv
  obtain ⟨n, hn⟩ := h
  obtain ⟨z, h1, _⟩ := DataW.trod_bool ht hn
  refine ⟨z, ?_⟩
  unfold Cell.okWide at hc
  simp only [ht, Cell.ok] at hc
  cases v <;> first | (exfalso; simp at hc; done) | (simpa [Value.cells] using h1)
theorem wf64 {z : Int} (h : (Lit.int .i64 z).wf = true) : -9223372036854775808 ≤ z ∧ z ≤ 9223372036854775807 := by
  simp [Lit.wf, IntKind.min, IntKind.max, IntKind.signed, IntKind.bits] at h
  omega
theorem weights_at {ts : List TypeId} {ds : List (DataW H)} (h : (DataW.weightsEach P ts ds).all (· ≤ reachBytes) = true) {j : Nat} {t : TypeId} {d : DataW H} (ht : ts[j]? = some t) (hd : ds[j]? = some d) : ∀ n ∈ d.weights P t, n ≤ reachBytes := fun n hn => by
  have := List.all_eq_true.1 h n (DataW.weights_mem_each ht hd n hn)
  simpa using this
end
end Go.Itp
