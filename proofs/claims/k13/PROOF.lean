import PyProof.Rows.All
import Wide.All
import OpenK.AllK
import Wide.FinOn
import HandS.ForMost
import HandS.ForExc
import HandS.WordsDict
import HandS.More
import HandS.Sort
import HandS.DictComp
import HandS.ListItems
import HandS.DictEq
import HandS.Flow
import HandS.Wide
import HandS.TryOnly
import HandS.ExcOwn
import HandS.AnyAll
import HandS.GenList
import HandS.EndBits
import HandS.Lambda
import HandS.EndTab
import PyProof.TupleOfGen
import KE.DataMinMax
import KE.LtData
import PySem.Challenge.RW_repostack_k13_rules_that_guard
import HandS.FStr
import HandS.Style
import HandS.TupAny
import HandS.Iter
import KE.SortData
import HandS.HeadHook4
import HandS.HeadWalk
import HandS.Head0
import HandS.Head1
import HandS.Head2
section Text_Gx
set_option Elab.async false
set_option linter.all false
set_option maxRecDepth 100000
set_option maxHeartbeats 2000000
/-! Gx: any and all of a generator expression whose element may call defs and change the heap. -/
namespace Gx
open PySem PySem.Spec PyProof.Rows L2 GxR

/-- the state may differ in generators, tokens and draws -/
structure Like (s s' : Shared) : Prop where
  heap : s'.heap = s.heap
  os : s'.os = s.os
  bare : AllBare s'.gens
theorem Like.inv {X : Cx} {pins : List (Addr × Obj)} {σ : L2.St} {H : Hp} {s s' : Shared} (l : Like s s') (I : Inv X pins σ H s) : Inv X pins σ H s' := by
  obtain ⟨h', g', d', t', o'⟩ := s'
  have e1 : h' = s.heap := l.heap
  have e2 : o' = s.os := l.os
  subst e1
  subst e2
  exact I.step (g' := g') (d' := d') (t' := t') (ch := []) (fun b hb => absurd hb (by simp)) (fun _ _ _ _ _ e _ => e) (fun _ o _ _ _ e _ => ⟨o.slots, e⟩)
    (fun _ _ _ _ n => n) (fun _ o _ e => ⟨o, e⟩) (fun _ _ e => e) (fun _ _ _ e => e) (fun _ _ e => ⟨#[], by rw [e]; simp⟩) (fun _ hn => hn) I.hok l.bare

/-- the generator's own frame, as a context: begun at s (before the frame was laid), the walked thing's objects at fp; ga: the generator's object, pinned -/
abbrev gCx (X : Cx) (s : Shared) (H : Hp) (A : Around) (env : Env) (fp : List Addr) (pn : List (Addr × Obj)) : Cx :=
  { X with A := A, s_0 := s, H_0 := H, env := env, outer := X.stack, stack := env :: X.stack, ex := fp, fn := fun _ => false, calm := true, pn := pn, xe := fun _ _ => False }

/-- the names of a generator expression: own ones with their places, or captured -/
structure GOk (N : List Str) (sc scope : Scope) (own : List (Str × Nat)) : Prop where
  kind : scope.kind = .function
  co : scope.isCoroutine = false
  uniq : ∀ y ∈ scope.names, scope.names.lookup y.1 = some y.2
  cell : ∀ y ∈ scope.names, y.2 ≠ .cell
  dot : scope.names.lookup (".0" : Str) = some NameKind.local
  ix : ∀ p ∈ own, N[p.2]? = some p.1
  free : ∀ y ∈ scope.names, y.2 = .free → sc.names.lookup y.1 = some .cell ∨ sc.names.lookup y.1 = some .free
  own : ∀ y ∈ scope.names, y.2 = .local → y.1 ∈ own.map (·.1) ∨ y.1 ∉ N

def gOkB (N : List Str) (sc scope : Scope) (own : List (Str × Nat)) : Bool :=
  decide (scope.kind = .function) && !scope.isCoroutine && (scope.names.all fun y => decide (scope.names.lookup y.1 = some y.2)) && (scope.names.all fun y => !decide (y.2 = .cell)) &&
  decide (scope.names.lookup (".0" : Str) = some NameKind.local) && (own.all fun p => decide (N[p.2]? = some p.1)) &&
  (scope.names.all fun y => !decide (y.2 = .free) || decide (sc.names.lookup y.1 = some .cell) || decide (sc.names.lookup y.1 = some .free)) &&
  (scope.names.all fun y => !decide (y.2 = .local) || decide (y.1 ∈ own.map (·.1)) || !decide (y.1 ∈ N))
theorem gOk_by {N : List Str} {sc scope : Scope} {own : List (Str × Nat)} (h : gOkB N sc scope own = true) : GOk N sc scope own := by
  unfold gOkB at h
  simp only [Bool.and_eq_true, Bool.or_eq_true, Bool.not_eq_true', decide_eq_true_eq, decide_eq_false_iff_not, List.all_eq_true] at h
  obtain ⟨⟨⟨⟨⟨⟨⟨h1, h2⟩, h3⟩, h4⟩, h5⟩, h6⟩, h7⟩, h8⟩ := h
  refine ⟨h1, h2, h3, h4, h5, h6, fun y hy e => ?_, fun y hy e => ?_⟩
  · rcases h7 y hy with (z | z) | z
    · exact absurd e z
    · exact .inl z
    · exact .inr z
  · rcases h8 y hy with (z | z) | z
    · exact absurd e z
    · exact .inl z
    · exact .inr z

section
variable {X : Cx} {pins : List (Addr × Obj)} {σ : L2.St} {H : Hp} {s : Shared}

/-- the captured cells of the frame -/
theorem clo_look {names : List (Str × NameKind)} (hf : ∀ y ∈ names, y.2 = .free → ∃ c, X.env.cells.lookup y.1 = some c) {y : Str} {c : Addr} (e : (cloFrom X.env.cells names []).lookup y = some c) : X.env.cells.lookup y = some c := by
  rcases cloFrom_mem (PySem.mem_of_lookup e) with hm | ⟨h1, h2⟩
  · cases hm
  · obtain ⟨c1, hc⟩ := hf _ h1 rfl
    have hc : X.env.cells.lookup y = some c1 := hc
    rw [hc] at h2
    rw [hc]
    exact congrArg some h2.symm
theorem clo_has {names : List (Str × NameKind)} {y : Str} (hl : names.lookup y = some .free) : ∃ c, (cloFrom X.env.cells names []).lookup y = some c :=
  mem_lookup (cloFrom_has (cells := X.env.cells) (acc := []) (PySem.mem_of_lookup hl))

/-- the generator's context holds at its start -/
theorem g_start {scope : Scope} {own : List (Str × Nat)} {fp : List Addr} {A : Around} {code : Value} {it : Value} {ga : Addr} {gobj : Obj} {h5 : Heap} {g5 : Array GenState} {d5 : Drawn} {t5 : Nat}
    (I : Inv X pins σ H s) (ok : GOk X.N X.env.scope scope own) (hN : X.N.Nodup) (hd : A.handled = none)
    (hA : A.frames = some (genEnv scope (cloFrom X.env.cells scope.names []) s.heap.objs.size code builtinsNs X.env :: X.stack))
    (hfp : ∀ b ∈ fp, FpOk X pins H b ∧ b < s.heap.objs.size)
    (keep : ∀ b o, s.heap.get? b = some o → h5.get? b = some o)
    (hns : h5.Ns s.heap.objs.size (fun y => if y = ".0" then some it else none))
    (hga : s.heap.objs.size < ga) (hgo : h5.get? ga = some gobj) (hgc : ∀ v, gobj.data ≠ .cell v) (hb : AllBare g5) :
    Inv (gCx X s H A (genEnv scope (cloFrom X.env.cells scope.names []) s.heap.objs.size code builtinsNs X.env) fp [(ga, gobj)]) [] (wipe σ (own.map (·.2))) H
      { s with heap := h5, gens := g5, drawn := d5, toks := t5 } := by
  have hfree : ∀ y ∈ scope.names, y.2 = .free → ∃ c, X.env.cells.lookup y.1 = some c := fun y hy e => by
    rcases ok.free y hy e with k | k
    · exact I.ok.has _ (.inl k)
    · exact I.ok.has _ (.inr k)
  have cm : ∀ {y c}, (cloFrom X.env.cells scope.names []).lookup y = some c → X.env.cells.lookup y = some c := fun {y c} e => clo_look hfree e
  have clt : ∀ {y c}, (cloFrom X.env.cells scope.names []).lookup y = some c → c < s.heap.objs.size := fun {y c} e => by
    obtain ⟨v, z⟩ := I.cell y c (cm e)
    exact z.lt
  have okG : (gCx X s H A (genEnv scope (cloFrom X.env.cells scope.names []) s.heap.objs.size code builtinsNs X.env) fp [(ga, gobj)]).Ok := by
    refine ⟨I.ok.mod, ok.kind, I.ok.glob, rfl, Nat.le_refl _, fun y z c e1 e2 => I.ok.inj y z c (cm e1) (cm e2), fun y hy => ?_, fun y c z _ => ?_, fun _ => hd, hA, .inr ⟨rfl, rfl⟩,
      fun b hb => ⟨Nat.ne_of_lt (hfp b hb).2, fun y c e z => ?_⟩, I.bs, Nat.le_trans I.ok.bsz I.sz, fun b o e hb => ?_, fun b hb z => ?_, I.stack, I.stkFree⟩
    · have hy : scope.names.lookup y = some .cell ∨ scope.names.lookup y = some .free := hy
      rcases hy with hy | hy
      · exact absurd rfl (ok.cell _ (PySem.mem_of_lookup hy))
      · exact clo_has hy
    · have z : false = true := z
      cases z
    · exact (hfp b hb).1.2.2.2.2.1 y c (cm e) z
    · rcases (hfp b hb).1.2.2.2.1 with z | z
      · exact I.ok.noex b o e z
      · exact absurd (Nat.lt_of_lt_of_le (Heap.lt_size e) (Nat.le_trans I.ok.bsz z)) (Nat.lt_irrefl _)
    · rcases List.mem_cons.mp (I.stkSub b z) with z | z
      · exact (hfp b hb).1.2.1 z
      · exact (hfp b hb).1.2.2.1 z
  refine ⟨okG, rfl, hb, Un.kept keep, ⟨_, hns, fun i y av e1 e2 e3 => ?_⟩, fun y c e => ?_, I.hok.fresh (Nat.le_refl _), fun y c e => ?_, fun p hp => ?_, I.hok.kept keep, by rw [wipe_length]; exact I.len⟩
  · obtain ⟨e2, hne⟩ := wipe_some e2
    have e3 : Vis scope y := e3
    have fr : scope.names.lookup y = some .free := by
      rcases e3 with k | k | k
      · rcases ok.own _ (PySem.mem_of_lookup k) rfl with e' | e'
        · obtain ⟨p, hp, hpy⟩ := List.mem_map.mp e'
          have e4 := ok.ix p hp
          have e5 : p.1 = y := hpy
          rw [e5] at e4
          exact absurd (List.mem_map.mpr ⟨p, hp, nodup_ix hN e4 e1⟩) hne
        · exact absurd (List.mem_of_getElem? e1) e'
      · exact absurd rfl (ok.cell _ (PySem.mem_of_lookup k))
      · exact k
    obtain ⟨m, hn, hl⟩ := I.loc
    have vis : Vis X.env.scope y := (ok.free _ (PySem.mem_of_lookup fr) rfl).elim (fun k => .inr (.inl k)) (fun k => .inr (.inr k))
    obtain ⟨w, r, q⟩ := hl i y av e1 e2 vis
    obtain ⟨c, hc⟩ := clo_has (X := X) fr
    refine ⟨w, r, .inr ⟨.inr fr, c, hc, ?_⟩⟩
    have hc' := cm hc
    rcases q with ⟨k, _⟩ | ⟨_, c', e', z⟩
    · have k : X.env.scope.names.lookup y = some .local := k
      rcases ok.free _ (PySem.mem_of_lookup fr) rfl with k' | k' <;> rw [show X.env.scope.names.lookup y = _ from k'] at k <;> cases k
    · rw [hc'] at e'
      cases e'
      exact z.keeps keep
  · obtain ⟨v, z⟩ := I.cell y c (cm e)
    exact ⟨v, z.keeps keep⟩
  · exact I.freeC y c (cm e)
  · have hp' : p ∈ [(ga, gobj)] := by simpa using hp
    rw [List.mem_singleton.mp hp']
    refine ⟨hgo, I.hok.fresh (Nat.le_of_lt hga), Nat.ne_of_gt hga, fun z => ?_, hgc⟩
    obtain ⟨_, o, ho, _⟩ := I.stack.mem z
    have h2 := I.stkFree
    rcases List.mem_cons.mp (I.stkSub ga z) with z | z
    · have := I.lt
      rw [← z] at this
      exact absurd (Nat.lt_trans hga this) (Nat.lt_irrefl _)
    · exact I.nofs (Nat.le_of_lt hga) z
end
end Gx
end Text_Gx
section Text_Gy
set_option Elab.async false
set_option linter.all false
set_option maxRecDepth 100000
set_option maxHeartbeats 2000000
namespace Gx
open PySem PySem.Spec PyProof.Rows L2 GxR

/-- the end of the walk: nothing is left -/
def REx (Z : Cx) (Q : VK) (neg : Bool) : GenEnd := fun _ _ r s₁ => r = .ok .next ∧ ∃ σ' H', Inv Z [] σ' H' s₁ ∧ Q (.bl neg) H'
/-- a truth value is handed out: the walk goes on, or is left -/
def YEx (Z : Cx) (Q : VK) (neg : Bool) : Protocol := fun _ _ v s₁ kap => ∃ c ps σ' H', v = .bool c ∧ Inv Z ps σ' H' s₁ ∧ (c = neg → ∀ s', Like s₁ s' → kap (.send .none) s') ∧ (c ≠ neg → Q (.bl (!neg)) H')

/-- a turn: nothing is left, or the next item's test -/
def TurnG (J : It) (g : TG) (tt : TT) (te : TE) (vs : List Nat) (σ0 : L2.St) (Q : VK) (neg : Bool) (W : Nat → Nat → Hp → Prop) : Prop :=
  ∀ i m H, W i m H → (J.stop i H ∧ Q (.bl neg) H) ∨ (J.go i H ∧ ∃ Nx : Hp → Prop, (∀ H', Nx H' → ∃ m', m' < m ∧ W (i + 1) m' H') ∧
    ∀ x H', J.yld i H x H' → g x σ0 H' fun σ2 H2 => wipe σ2 vs = σ0 ∧ tt σ2 H2 fun b H3 => if b = true then te σ2 H3 fun y H4 => ∃ c, y = .bl c ∧ (if c = neg then Nx H4 else Q (.bl (!neg)) H4) else Nx H3)

section
variable {Z : Cx}
theorem seg_turns {A : Around} {elt tg iter : Expr} {ifs : List Expr} {scope : Scope} {pos : Pos} {it : Addr} {fp : List Addr} {tn : Nat → Heap → Prop} {J : It} {g : TG} {tt : TT} {te : TE} {vs : List Nat} {σ0 : L2.St} {Q : VK} {neg : Bool}
    {W : Nat → Nat → Hp → Prop} (hA : A.over (.compLoop (.GeneratorExp elt [⟨tg, iter, ifs, 0⟩] scope pos) 0 (.ref it) .none Z.env) [] = Z.A) (hx : Z.xe = fun _ _ => False) (hco : Z.env.scope.isCoroutine = false) (hcalm : Z.calm = true) (hex : Z.ex = fp)
    (hpn : ∀ p ∈ Z.pn, ∀ b ∈ fp, p.1 ≠ b) (T : Turn Z.prog Z.w Z.K tg J fp it tn) (pg : PG Z tg g) (pt : PTs Z ifs tt) (pe : PE Z elt te) (hW : TurnG J g tt te vs σ0 Q neg W) :
    ∀ (m n i : Nat) (s₀ s : Shared) (H : Hp), m + 1 ≤ n → Inv Z [] σ0 H s → tn i s.heap → (∀ b ∈ fp, H b = none) → W i m H →
      Seg (model Z.prog Z.w) A (REx Z Q neg) (YEx Z Q neg) n s₀ (.compLoop (.GeneratorExp elt [⟨tg, iter, ifs, 0⟩] scope pos) 0 (.ref it) .none Z.env)
        ((model Z.prog Z.w).den (.compLoop (.GeneratorExp elt [⟨tg, iter, ifs, 0⟩] scope pos) 0 (.ref it) .none Z.env)) [] s := by
  have stat : ∀ {σ' : L2.St} {H' : Hp} {s' : Shared}, Inv Z [] σ' H' s' → (∀ b ∈ fp, H' b = none) → ∀ b ∈ fp, FpOk Z [] H' b := fun {σ' H' s'} I hn b hb => by
    have hb' : b ∈ Z.ex := by rw [hex]; exact hb
    refine ⟨hn b hb, (I.ok.exf b hb').1, I.ok.exfs b hb', .inl hb', (I.ok.exf b hb').2, fun p hp => hpn p ?_ b hb⟩
    simpa using hp
  intro m
  induction m using Nat.strongRecOn with
  | ind m ih =>
    intro n i s₀ s H hmn I st nf w
    obtain ⟨n, rfl⟩ : ∃ k, n = k + 1 := ⟨n - 1, by omega⟩
    show Seg _ A _ _ _ s₀ _ ((compTurn (.GeneratorExp elt [⟨tg, iter, ifs, 0⟩] scope pos) 0 (.ref it) .none Z.env).onRaise (leaving Z.env)) [] s
    rw [compTurn_gen, Sem.onRaise_eq_wrap]
    refine seg_bind_wrap (wpAny_standAt ?_)
    rcases hW i m H w with ⟨stop, qq⟩ | ⟨go, Nx, hNx, step⟩
    · have td := T.done Z rfl rfl rfl hcalm i [] s σ0 H (fun _ _ => False) I (stat I nf) st stop
      refine seg_bind_wrap ?_
      rw [hA]
      refine thnF td fun r s1 hr => ?_
      obtain ⟨hr, I1⟩ := hr
      subst hr
      exact seg_end (.ok .next) ⟨rfl, σ0, H, I1, qq⟩
    · have ti := T.item Z rfl rfl rfl hcalm i [] s σ0 H (fun _ _ => False) I (stat I nf) st go
      refine seg_bind_wrap ?_
      rw [hA]
      refine thnF ti fun r s1 hr => ?_
      obtain ⟨u, hr, h1⟩ := hr
      subst hr
      refine seg_bind_wrap ?_
      rw [hA]
      refine thnF h1 fun _ s2 h2 => ?_
      obtain ⟨x, H2, I2, r2, y2, st2, n2⟩ := h2
      have I2' := I2.pinned (stat I2 n2) (T.obj _ _ st2)
      refine seg_bind_wrap ?_
      rw [hA]
      have h3 := pg.run _ s2 _ H2 x u _ I2' r2 (step x H2 y2)
      rw [hx] at h3
      refine thnF h3 fun _ s3 q3 => ?_
      obtain ⟨σ3, H3, I3, hw3, q3⟩ := q3
      refine seg_bind_wrap ?_
      rw [hA]
      have h4 := pt.run _ s3 σ3 H3 _ I3 q3
      rw [hx] at h4
      refine thnF h4 fun b s4 q4 => ?_
      obtain ⟨H4, I4, q4⟩ := q4
      -- a turn's end
      have hl : σ0.length = σ3.length := by rw [← hw3, wipe_length]
      have hk : ∀ (j : Nat) v, σ0[j]? = some (some v) → σ3[j]? = some (some v) := fun j v e => by
        rw [← hw3] at e
        exact (wipe_some e).1
      have fin : ∀ {k : Nat} {s₀' s' : Shared} {H' : Hp}, m ≤ k → Inv Z ([] ++ pinsAt fp s2.heap) σ3 H' s' → Nx H' →
          Seg (model Z.prog Z.w) A (REx Z Q neg) (YEx Z Q neg) k s₀' (.compLoop (.GeneratorExp elt [⟨tg, iter, ifs, 0⟩] scope pos) 0 (.ref it) .none Z.env) ((model Z.prog Z.w).den (.compLoop (.GeneratorExp elt [⟨tg, iter, ifs, 0⟩] scope pos) 0 (.ref it) .none Z.env)) [] s' := fun {k s₀' s' H'} hk' I' nx => by
        obtain ⟨m', hm, w'⟩ := hNx H' nx
        have pin' : ∀ b ∈ fp, ∀ o, s2.heap.get? b = some o → s'.heap.get? b = some o ∧ H' b = none := fun b hb o e =>
          let z := I'.pin (b, o) (List.mem_append_right _ (List.mem_append_right _ (mem_pinsAt hb e)))
          ⟨z.1, z.2.1⟩
        refine ih m' hm k (i + 1) s₀' s' H' (by omega) ((I'.unpinned (pins := [])).weak hl hk) (T.keep _ _ _ st2 fun b hb o e => (pin' b hb o e).1) (fun b hb => ?_) w'
        obtain ⟨o, e, _⟩ := T.obj _ _ st2 b hb
        exact (pin' b hb o e).2
      cases b with
      | false =>
        simp only [Bool.false_eq_true, if_false] at q4 ⊢
        exact seg_again rfl (fin (by omega) I4 q4)
      | true =>
        simp only [if_true] at q4 ⊢
        have hy : ∀ v, yieldOut Z.env v = yieldValue v := fun v => by simp only [yieldOut, hco, Bool.false_eq_true, if_false]
        simp only [hy]
        rw [Sem.bind_eq_wrap', Sem.bind_eq_wrap', Sem.wrap_wrap, Sem.wrap_wrap]
        refine seg_wrap ?_
        rw [hA]
        have h5 := pe.run _ s4 σ3 H4 _ I4 q4
        rw [hx] at h5
        refine thnF h5 fun v s5 q5 => ?_
        obtain ⟨yv, H5, I5, r5, c, ey, q5⟩ := q5
        subst ey
        obtain rfl : v = Value.bool c := r5
        refine seg_at (seg_yield rfl rfl rfl ⟨c, _, σ3, H5, rfl, I5, fun hc s' hl' => ?_, fun hc => ?_⟩)
        · rw [if_pos hc] at q5
          exact seg_again rfl (fin (by omega) (hl'.inv I5) q5)
        · rw [if_neg hc] at q5
          exact q5
end
end Gx
end Text_Gy
section Text_Gz
set_option Elab.async false
set_option linter.all false
set_option maxRecDepth 100000
set_option maxHeartbeats 4000000
namespace Gx
open PySem PySem.Spec PyProof.Rows L2 GxR

theorem over_loop {A : Around} {elt tg iter : Expr} {ifs : List Expr} {scope : Scope} {pos : Pos} {it : Value} {env : Env} : A.over (.compLoop (.GeneratorExp elt [⟨tg, iter, ifs, 0⟩] scope pos) 0 it .none env) [] = A.deeper env := by rfl
theorem over_start {A : Around} {elt tg iter : Expr} {ifs : List Expr} {scope : Scope} {pos : Pos} {it : Value} {env : Env} : A.over (.compStart (.GeneratorExp elt [⟨tg, iter, ifs, 0⟩] scope pos) 0 it .none env) [] = A.deeper env := by rfl
theorem Room.g {k : Nat} {A : Around} (r : Room (k + 1) A) (env : Env) : Room k (A.in1.in1.deeper env) :=
  ⟨r.hd, by have := r.dp; show A.depth + 1 + 3 * k + 5 < _; omega, by have := r.un; show A.units + 1 + 1 + 3 + 16 * k + 200 < _; omega⟩

section
variable {Z : Cx}
theorem seg_first {A : Around} {elt tg iter : Expr} {ifs : List Expr} {scope : Scope} {pos : Pos} {it : Addr} {fp : List Addr} {tn : Nat → Heap → Prop} {J : It} {g : TG} {tt : TT} {te : TE} {vs : List Nat} {σ0 : L2.St} {Q : VK} {neg : Bool}
    {W : Nat → Nat → Hp → Prop} (hA : A.deeper Z.env = Z.A) (hx : Z.xe = fun _ _ => False) (hco : Z.env.scope.isCoroutine = false) (hcalm : Z.calm = true) (hex : Z.ex = fp)
    (hpn : ∀ p ∈ Z.pn, ∀ b ∈ fp, p.1 ≠ b) (T : Turn Z.prog Z.w Z.K tg J fp it tn) (pg : PG Z tg g) (pt : PTs Z ifs tt) (pe : PE Z elt te) (hW : TurnG J g tt te vs σ0 Q neg W)
    (m n : Nat) (s₀ s : Shared) (H : Hp) (hm : m + 1 ≤ n) (I : Inv Z [] σ0 H s) (st : tn 0 s.heap) (nf : ∀ b ∈ fp, H b = none) (w : W 0 m H) :
      Seg (model Z.prog Z.w) A (REx Z Q neg) (YEx Z Q neg) n s₀ (.compStart (.GeneratorExp elt [⟨tg, iter, ifs, 0⟩] scope pos) 0 (.ref it) .none Z.env)
        ((model Z.prog Z.w).den (.compStart (.GeneratorExp elt [⟨tg, iter, ifs, 0⟩] scope pos) 0 (.ref it) .none Z.env)) [] s := by
  have loop := fun s₀ => seg_turns (A := A) (pos := pos) (scope := scope) (iter := iter) (over_loop.trans hA) hx hco hcalm hex hpn T pg pt pe hW m n 0 s₀ s H hm I st nf w
  show Seg _ A _ _ _ s₀ _ ((compStart (.GeneratorExp elt [⟨tg, iter, ifs, 0⟩] scope pos) 0 (.ref it) .none Z.env).onRaise (leaving Z.env)) [] s
  unfold compStart
  rw [Sem.onRaise_eq_wrap]
  show Seg _ A _ _ _ s₀ _ ((ask >>= _).wrap _ _ _ _) [] s
  refine seg_bind_wrap (wpAny_askSetting ?_)
  split
  · exact seg_again rfl (loop s₀)
  · first
      | exact seg_bind_wrap (wpAny_rule (seg_bind_wrap (wpAny_standAt (seg_bind_wrap (T.self _ 0 s _ _ st (seg_again rfl (loop s₀)))))))
      | (refine seg_bind_wrap (wpAny_rule ?_); show Seg _ A _ _ _ s₀ _ ((standAt iter.pos >>= _).wrap _ _ _ _) [] s; exact seg_bind_wrap (wpAny_standAt (seg_bind_wrap (T.self _ 0 s _ _ st (seg_again rfl (loop s₀))))))

theorem like_setGen {s : Shared} {g : Nat} {x : GenState} (hb : AllBare s.gens) (hx : x.bare = true) : Like s (s.setGen g x) := ⟨rfl, rfl, allBare_setGen hb hx⟩
theorem like_trans {s s1 s2 : Shared} (a : Like s s1) (b : Like s1 s2) : Like s s2 := ⟨b.heap.trans a.heap, b.os.trans a.os, b.bare⟩

/-- any's loop over a generator of ours -/
theorem any_turns {A : Around} {R : Result → Shared → Prop} {ga : Addr} {g : Nat} {Q : VK} (hh : A.handled = none) (hd : A.depth < recursionLimit)
    (hG : ∀ {ps σ' H'} {s' : Shared}, Inv Z ps σ' H' s' → s'.heap.IsGen ga g)
    (hR : ∀ (b : Bool) ps σ' H' s', Inv Z ps σ' H' s' → Q (.bl b) H' → R (.ok (.ret (.bool b))) s') :
    ∀ (n : Nat) (s : Shared), s.heap.IsGen ga g → s.heap.NoLimit →
      (∃ gs, s.gens[g]? = some gs ∧ gs.Goes (model Z.prog Z.w) A.in1.in1 (REx Z Q false) (YEx Z Q false) n (.send .none) (s.setGen g .running)) →
      codeAny (model Z.prog Z.w) A (.builtin "any.loop" ⟨[.ref ga], []⟩) R s := by
  intro n
  induction n with
  | zero =>
    intro s hg hl hgo
    obtain ⟨gs, hgs, hgo⟩ := hgo
    refine codeAny_builtin F.entry_any_loop ?_
    rw [Around.under_plainId F.plain_any_loop _]
    show wpAny _ A.in1 (pyNext (.ref ga) >>= _) _ _ s
    refine wpAny_bind (wpAny_pyNext_genexpQ (A := A.in1) (P := fun _ _ s₁ => ∃ σ' H', Inv Z [] σ' H' s₁ ∧ Q (.bl false) H') hh hl hd hg hgs hgo (fun v s₁ gs' hb hv => ?_) (fun s₁ hp h' hk => ?_))
    · obtain ⟨c, ps, σ', H', rfl, I, h1, h2⟩ := hv
      cases c with
      | false => exact (h1 rfl s₁ ⟨rfl, rfl, I.bare⟩).elim
      | true =>
        refine wpAny_bind (wpAny_holding (wpAny_truthy_bool (wpAny_bind (wpAny_letGo ?_))))
        simp only [if_true]
        refine wpAny_bind (wpAny_rule (wpAny_pure ?_))
        exact hR true ps σ' H' _ ((like_setGen I.bare hb).inv I) (h2 (by decide))
    · obtain ⟨σ', H', I, q⟩ := hp
      refine wpAny_bind (wpAny_rule (wpAny_pure ?_))
      exact hR false [] σ' H' _ (((like_setGen (g := g) (x := .finished) I.bare rfl).inv I).kept (t' := s₁.toks) hk) q
  | succ n ih =>
    intro s hg hl hgo
    obtain ⟨gs, hgs, hgo⟩ := hgo
    have hgl : g < s.gens.size := (Array.getElem?_eq_some_iff.mp hgs).1
    refine codeAny_builtin F.entry_any_loop ?_
    rw [Around.under_plainId F.plain_any_loop _]
    show wpAny _ A.in1 (pyNext (.ref ga) >>= _) _ _ s
    refine wpAny_bind (GenW.wpAny_gsz (n := g + 1) hgl (wpAny_pyNext_genexpQ (A := A.in1) (P := fun _ _ s₁ => ∃ σ' H', Inv Z [] σ' H' s₁ ∧ Q (.bl false) H') hh hl hd hg hgs hgo (fun v s₁ gs' hb hv hsz => ?_) (fun s₁ hp h' hk hsz => ?_)))
    · obtain ⟨c, ps, σ', H', rfl, I, h1, h2⟩ := hv
      have L1 := like_setGen (g := g) I.bare hb
      have I1 := L1.inv I
      refine wpAny_bind (wpAny_holding (wpAny_truthy_bool (wpAny_bind (wpAny_letGo ?_))))
      cases c with
      | false =>
        simp only [Bool.false_eq_true, if_false]
        have hsz1 : g < s₁.gens.size := by
          have q : (s₁.setGen g gs').gens.size = s₁.gens.size := GenW.setGen_size _ _ _
          have hsz' : g + 1 ≤ (s₁.setGen g gs').gens.size := hsz
          omega
        refine wpAny_pure ⟨plainId_quiet F.plain_any_loop _, ih _ (hG I1) I1.nolimit ⟨gs', setGen_at hsz1, ?_⟩⟩
        exact h1 rfl _ (like_trans L1 (like_setGen L1.bare rfl))
      | true =>
        simp only [if_true]
        refine wpAny_bind (wpAny_rule (wpAny_pure ?_))
        exact hR true ps σ' H' _ I1 (h2 (by decide))
    · obtain ⟨σ', H', I, q⟩ := hp
      refine wpAny_bind (wpAny_rule (wpAny_pure ?_))
      exact hR false [] σ' H' _ (((like_setGen (g := g) (x := .finished) I.bare rfl).inv I).kept (t' := s₁.toks) hk) q

/-- all's loop over a generator of ours -/
theorem all_turns {A : Around} {R : Result → Shared → Prop} {ga : Addr} {g : Nat} {Q : VK} (hh : A.handled = none) (hd : A.depth < recursionLimit)
    (hG : ∀ {ps σ' H'} {s' : Shared}, Inv Z ps σ' H' s' → s'.heap.IsGen ga g)
    (hR : ∀ (b : Bool) ps σ' H' s', Inv Z ps σ' H' s' → Q (.bl b) H' → R (.ok (.ret (.bool b))) s') :
    ∀ (n : Nat) (s : Shared), s.heap.IsGen ga g → s.heap.NoLimit →
      (∃ gs, s.gens[g]? = some gs ∧ gs.Goes (model Z.prog Z.w) A.in1.in1 (REx Z Q true) (YEx Z Q true) n (.send .none) (s.setGen g .running)) →
      codeAny (model Z.prog Z.w) A (.builtin "all.loop" ⟨[.ref ga], []⟩) R s := by
  intro n
  induction n with
  | zero =>
    intro s hg hl hgo
    obtain ⟨gs, hgs, hgo⟩ := hgo
    refine codeAny_builtin F.entry_all_loop ?_
    rw [Around.under_plainId F.plain_all_loop _]
    show wpAny _ A.in1 (pyNext (.ref ga) >>= _) _ _ s
    refine wpAny_bind (wpAny_pyNext_genexpQ (A := A.in1) (P := fun _ _ s₁ => ∃ σ' H', Inv Z [] σ' H' s₁ ∧ Q (.bl true) H') hh hl hd hg hgs hgo (fun v s₁ gs' hb hv => ?_) (fun s₁ hp h' hk => ?_))
    · obtain ⟨c, ps, σ', H', rfl, I, h1, h2⟩ := hv
      cases c with
      | true => exact (h1 rfl s₁ ⟨rfl, rfl, I.bare⟩).elim
      | false =>
        refine wpAny_bind (wpAny_holding (wpAny_truthy_bool (wpAny_bind (wpAny_letGo ?_))))
        simp only [Bool.false_eq_true, if_false]
        refine wpAny_bind (wpAny_rule (wpAny_pure ?_))
        exact hR false ps σ' H' _ ((like_setGen I.bare hb).inv I) (h2 (by decide))
    · obtain ⟨σ', H', I, q⟩ := hp
      refine wpAny_bind (wpAny_rule (wpAny_pure ?_))
      exact hR true [] σ' H' _ (((like_setGen (g := g) (x := .finished) I.bare rfl).inv I).kept (t' := s₁.toks) hk) q
  | succ n ih =>
    intro s hg hl hgo
    obtain ⟨gs, hgs, hgo⟩ := hgo
    have hgl : g < s.gens.size := (Array.getElem?_eq_some_iff.mp hgs).1
    refine codeAny_builtin F.entry_all_loop ?_
    rw [Around.under_plainId F.plain_all_loop _]
    show wpAny _ A.in1 (pyNext (.ref ga) >>= _) _ _ s
    refine wpAny_bind (GenW.wpAny_gsz (n := g + 1) hgl (wpAny_pyNext_genexpQ (A := A.in1) (P := fun _ _ s₁ => ∃ σ' H', Inv Z [] σ' H' s₁ ∧ Q (.bl true) H') hh hl hd hg hgs hgo (fun v s₁ gs' hb hv hsz => ?_) (fun s₁ hp h' hk hsz => ?_)))
    · obtain ⟨c, ps, σ', H', rfl, I, h1, h2⟩ := hv
      have L1 := like_setGen (g := g) I.bare hb
      have I1 := L1.inv I
      refine wpAny_bind (wpAny_holding (wpAny_truthy_bool (wpAny_bind (wpAny_letGo ?_))))
      cases c with
      | true =>
        simp only [if_true]
        have hsz1 : g < s₁.gens.size := by
          have q : (s₁.setGen g gs').gens.size = s₁.gens.size := GenW.setGen_size _ _ _
          have hsz' : g + 1 ≤ (s₁.setGen g gs').gens.size := hsz
          omega
        refine wpAny_pure ⟨plainId_quiet F.plain_all_loop _, ih _ (hG I1) I1.nolimit ⟨gs', setGen_at hsz1, ?_⟩⟩
        exact h1 rfl _ (like_trans L1 (like_setGen L1.bare rfl))
      | false =>
        simp only [Bool.false_eq_true, if_false]
        refine wpAny_bind (wpAny_rule (wpAny_pure ?_))
        exact hR false ps σ' H' _ I1 (h2 (by decide))
    · obtain ⟨σ', H', I, q⟩ := hp
      refine wpAny_bind (wpAny_rule (wpAny_pure ?_))
      exact hR true [] σ' H' _ (((like_setGen (g := g) (x := .finished) I.bare rfl).inv I).kept (t' := s₁.toks) hk) q
end
end Gx
end Text_Gz
section Text_Ga
set_option Elab.async false
set_option linter.all false
set_option maxRecDepth 100000
set_option maxHeartbeats 4000000
namespace Gx
open PySem PySem.Spec PyProof.Rows L2 GxR

/-- any, all of a generator expression: wi what is walked; P the running def's table of code objects, which may grow -/
def tGen (P : Addr) (neg : Bool) (wi : TI) (g : TG) (tt : TT) (te : TE) (vs : List Nat) : TE := fun σ H Q => wi σ H fun J H1 => TabG H1 P ∧ ∀ H2, Tabbed P H1 H2 →
  ∃ W : Nat → Nat → Hp → Prop, (∃ m, W 0 m H2) ∧ TurnG J g tt te vs (wipe σ vs) Q neg W

section
variable {X : Cx} {pins : List (Addr × Obj)} {σ : L2.St} {H : Hp} {s : Shared}
/-- the generator is made; then Q' of it -/
theorem gen_made {c P : Addr} {neg : Bool} {elt tg iter : Expr} {ifs : List Expr} {scope : Scope} {own : List (Str × Nat)} {pos : Pos} {wi : TI} {g : TG} {tt : TT} {te : TE} {k : Nat} {Q : VK} {Q' : Value → Shared → Prop}
    (hr : Room (k + 1) X.A) (TB : TabB X.base X.mg c P) (hcode : X.env.code = .ref c) (hN : X.N.Nodup) (ok : GOk X.N X.env.scope scope own) (hi : PI X tg iter wi)
    (hg : ∀ (s : Shared) (H : Hp) (C : Addr) (cd : Value) (fp : List Addr) (pn : List (Addr × Obj)), PG (gCx X s H (X.A.in1.in1.deeper (genEnv scope (cloFrom X.env.cells scope.names []) C cd builtinsNs X.env)) (genEnv scope (cloFrom X.env.cells scope.names []) C cd builtinsNs X.env) fp pn) tg g)
    (ht : ∀ (s : Shared) (H : Hp) (C : Addr) (cd : Value) (fp : List Addr) (pn : List (Addr × Obj)), Room k (X.A.in1.in1.deeper (genEnv scope (cloFrom X.env.cells scope.names []) C cd builtinsNs X.env)) → PTs (gCx X s H (X.A.in1.in1.deeper (genEnv scope (cloFrom X.env.cells scope.names []) C cd builtinsNs X.env)) (genEnv scope (cloFrom X.env.cells scope.names []) C cd builtinsNs X.env) fp pn) ifs tt)
    (he : ∀ (s : Shared) (H : Hp) (C : Addr) (cd : Value) (fp : List Addr) (pn : List (Addr × Obj)), Room k (X.A.in1.in1.deeper (genEnv scope (cloFrom X.env.cells scope.names []) C cd builtinsNs X.env)) → PE (gCx X s H (X.A.in1.in1.deeper (genEnv scope (cloFrom X.env.cells scope.names []) C cd builtinsNs X.env)) (genEnv scope (cloFrom X.env.cells scope.names []) C cd builtinsNs X.env) fp pn) elt te)
    (hs : ∀ v, genFold iter X.env v = pure v) (I : Inv X pins σ H s) (h : tGen P neg wi g tt te (own.map (·.2)) σ H Q)
    (hQ : ∀ (Z : Cx) (ga : Addr) (gn n : Nat) (cd : Code) (s5 : Shared), Z.prog = X.prog → Z.w = X.w → s5.heap.IsGen ga gn → s5.heap.NoLimit → s5.gens[gn]? = some (.fresh cd) → AllBare s5.gens →
      (∀ {ps σ' H'} {s' : Shared}, Inv Z ps σ' H' s' → s'.heap.IsGen ga gn) → (∀ {ps σ' H'} {s' : Shared}, Inv Z ps σ' H' s' → Inv X pins σ H' s') →
      (∀ s6, Like s5 s6 → (GenState.fresh cd).Goes (model Z.prog Z.w) X.A.in1.in1 (REx Z Q neg) (YEx Z Q neg) n (.send .none) s6) → Q' (.ref ga) s5) :
    wpAny (model X.prog X.w) X.A (eval (.GeneratorExp elt [⟨tg, iter, ifs, 0⟩] scope pos) X.env) Q' X.xe s := by
  have hfree : ∀ y ∈ scope.names, y.2 = .free → ∃ c, X.env.cells.lookup y.1 = some c := fun y hy e => by
    rcases ok.free y hy e with q | q
    · exact I.ok.has _ (.inl q)
    · exact I.ok.has _ (.inr q)
  refine wpAny_GeneratorExp_make ok.co (closure_ok hfree) ok.cell ok.dot ok.kind (by have := hr.dp; omega) ?_ hs
  refine thn (hi.run pins s σ H _ I h) fun xv s1 hx => thn hx fun itv s2 h2 => ?_
  obtain ⟨it, fp, tn, J, H2, e, I2, T, st2, f2, ⟨ps, hP, hok⟩, hq⟩ := h2
  subst e
  have hPs : s2.heap.get? P = some { cls := .none, data := .fields ps } := I2.hok P _ hP
  have cd2 : PySem.W.CodeHd s2.heap c P := TB.code.keeps fun b u e => I2.bk b u e
  refine ⟨I2.nolimit, ?_⟩
  -- behind the making of the code object
  have cont : ∀ (code : Value) (s4 : Shared) (H4 : Hp), Inv X pins σ H4 s4 → Tabbed P H2 H4 → tn 0 s4.heap → (∀ b ∈ fp, FpOk X pins H4 b) →
      wpAny (model X.prog X.w) X.A (builtinsFor X.env.globals X.env.builtins) (fun bi s₄ => ∀ h', h'.Ns s₄.heap.objs.size (fun y => if y = ".0" then some (.ref it) else none) →
          Heap.SameBut s₄.heap.objs.size (s₄.heap.push { cls := .type "frame", data := .dict #[] }) h' →
          Q' (.ref h'.objs.size) { s₄ with gens := s₄.gens.push (.fresh (.compStart (.GeneratorExp elt [⟨tg, iter, ifs, 0⟩] scope pos) 0 (.ref it) .none (genEnv scope (cloFrom X.env.cells scope.names []) s₄.heap.objs.size code bi X.env))), toks := s₄.toks + 1 + 1 + 1, heap := h'.push { cls := .type "generator", data := .fields #[.int s₄.gens.size 0, .str "<genexpr>" (s₄.toks + 1), .str (X.env.qual ++ "<genexpr>") (s₄.toks + 1 + 1)] } }) X.xe s4 := by
    intro code s4 H4 I4 hT4 st4 f4
    obtain ⟨bm, ob, e1, e2, e3, e4, e5, e6, e7, e8⟩ := TB.bm
    have hbmP : bm ≠ P := e4
    refine wpAny_builtinsFor (m := X.mg) (by rw [I4.ok.glob]; exact I4.mod.glob.keeps I4.bk) e1 e2 (I4.bk _ _ e5) e6 e7 e8 ?_
    intro h' hn' hs'
    generalize hgobj : ({ cls := .type "generator", data := .fields #[.int s4.gens.size 0, .str "<genexpr>" (s4.toks + 1), .str (X.env.qual ++ "<genexpr>") (s4.toks + 1 + 1)] } : Obj) = gobj
    have hsz : h'.objs.size = s4.heap.objs.size + 1 := by rw [hs'.1, Heap.size_push]
    have k5 : ∀ b o, s4.heap.get? b = some o → (h'.push gobj).get? b = some o := fun b o e =>
      Heap.get?_push_of_some _ (hs'.extBut b o (Nat.ne_of_lt (Heap.lt_size e)) (Heap.get?_push_of_some _ e))
    have hfp4 : ∀ b ∈ fp, FpOk X pins H4 b ∧ b < s4.heap.objs.size := fun b hb => by
      obtain ⟨o, e, _⟩ := T.obj _ _ st4 b hb
      exact ⟨f4 b hb, Heap.lt_size e⟩
    have hgo : (h'.push gobj).get? h'.objs.size = some gobj := Heap.get?_push_size _ (by rw [← hgobj]; rfl)
    have hgc : ∀ v, gobj.data ≠ .cell v := fun v z => by
      rw [← hgobj] at z
      cases z
    have hb5 : AllBare (s4.gens.push (.fresh (.compStart (.GeneratorExp elt [⟨tg, iter, ifs, 0⟩] scope pos) 0 (.ref it) .none (genEnv scope (cloFrom X.env.cells scope.names []) s4.heap.objs.size code builtinsNs X.env)))) := I4.bare.push rfl
    have hga : s4.heap.objs.size < h'.objs.size := by omega
    have J0 := g_start (A := X.A.in1.in1.deeper (genEnv scope (cloFrom X.env.cells scope.names []) s4.heap.objs.size code builtinsNs X.env)) (d5 := s4.drawn) (t5 := s4.toks + 1 + 1 + 1) I4 ok hN hr.hd
      (Around.frames_deeper (by exact I4.ok.frames)) hfp4 k5 (hn'.push _) hga hgo hgc hb5
    obtain ⟨W, ⟨m0, w0⟩, hW⟩ := hq H4 hT4
    have isg : ∀ {ps σ' H'} {s' : Shared}, Inv (gCx X s4 H4 (X.A.in1.in1.deeper (genEnv scope (cloFrom X.env.cells scope.names []) s4.heap.objs.size code builtinsNs X.env)) (genEnv scope (cloFrom X.env.cells scope.names []) s4.heap.objs.size code builtinsNs X.env) fp [(h'.objs.size, gobj)]) ps σ' H' s' → s'.heap.IsGen h'.objs.size s4.gens.size := fun {ps σ' H' s'} J => by
      have e := (J.pin (h'.objs.size, gobj) (List.mem_append_left _ List.mem_cons_self)).1
      exact ⟨gobj, _, _, e, by rw [← hgobj], by rw [← hgobj], by rw [← hgobj]⟩
    refine hQ (gCx X s4 H4 (X.A.in1.in1.deeper (genEnv scope (cloFrom X.env.cells scope.names []) s4.heap.objs.size code builtinsNs X.env)) (genEnv scope (cloFrom X.env.cells scope.names []) s4.heap.objs.size code builtinsNs X.env) fp [(h'.objs.size, gobj)]) h'.objs.size s4.gens.size (m0 + 1) _ _ rfl rfl (isg J0) J0.nolimit (Array.getElem?_push_size ..) hb5 isg (fun {ps σ' H' s'} J => ?_) (fun s6 l6 => ⟨rfl, ?_⟩)
    · exact I4.call' (ch := fp) J.os J.base J.hok J.bare fun b hb => ⟨(f4 b hb).2.2.2.1, (f4 b hb).2.1, (f4 b hb).2.2.2.2.1, (f4 b hb).2.2.2.2.2⟩
    · refine seg_first (A := X.A.in1.in1) (m := m0) rfl rfl ok.co rfl rfl (fun p hp b hb => ?_) T (hg _ _ _ _ _ _) (ht _ _ _ _ _ _ (Room.g hr _)) (he _ _ _ _ _ _ (Room.g hr _)) hW (m0 + 1) s6 s6 H4 (Nat.le_refl _) (l6.inv J0) ?_ (fun b hb => (f4 b hb).1) w0
      · rw [List.mem_singleton.mp hp]
        exact Nat.ne_of_gt (Nat.lt_trans (hfp4 b hb).2 hga)
      · have e6 := l6.heap
        rw [e6]
        exact T.keep _ _ _ st4 fun b hb o e => k5 b o e
  cases hf : codeAmong pos ps.toList with
  | some cv =>
    refine wpAny_genexprCode_hit hcode (cd2.code hPs hok) hf ?_
    exact cont cv s2 H2 I2 ⟨⟨ps, hP, hok⟩, fun _ _ => rfl⟩ st2 f2
  | none =>
    refine wpAny_genexprCodeX hcode (cd2.code hPs hok) (cd2.tab hPs) hf fun c' h' tk hx2 hge hlt hco' _ htab' _ => ?_
    obtain ⟨o1, vs1, g1, tf, fl, tg1, inF, tx, tt1, op, _, _, _, _, _, _, _, _, _, htr, _⟩ := hco'
    have I3 := inv_tab (more := #[rawInt pos.line, rawInt pos.col, .ref c']) (g' := s2.gens) (d' := s2.drawn) (t' := tk) I2 hP (fun b o hb e => hx2 b o hb e) htab'.2 I2.bare
    have nP : ∀ b ∈ fp, b ≠ P := fun b hb z => by
      have e := (f2 b hb).1
      rw [z, hP] at e
      cases e
    refine cont (.ref c') _ _ I3 ⟨⟨_, upd_same, htr⟩, fun b hb => upd_ne hb⟩ (T.keep _ _ _ st2 fun b hb o e => hx2 b o (nP b hb) e) fun b hb => ?_
    obtain ⟨z0, z1, z2, z3, z4, z5⟩ := f2 b hb
    exact ⟨by rw [upd_ne (nP b hb)]; exact z0, z1, z2, z3, z4, z5⟩

theorem pe_anyG {c P : Addr} {elt tg iter : Expr} {ifs : List Expr} {scope : Scope} {own : List (Str × Nat)} {pos gpos p : Pos} {wi : TI} {g : TG} {tt : TT} {te : TE} {k : Nat}
    (hr : Room (k + 1) X.A) (hgl : Gl X "any") (hm : X.mg "any" = none) (TB : TabB X.base X.mg c P) (hcode : X.env.code = .ref c) (hN : X.N.Nodup) (ok : GOk X.N X.env.scope scope own) (hi : PI X tg iter wi)
    (hg : ∀ (s : Shared) (H : Hp) (C : Addr) (cd : Value) (fp : List Addr) (pn : List (Addr × Obj)), PG (gCx X s H (X.A.in1.in1.deeper (genEnv scope (cloFrom X.env.cells scope.names []) C cd builtinsNs X.env)) (genEnv scope (cloFrom X.env.cells scope.names []) C cd builtinsNs X.env) fp pn) tg g)
    (ht : ∀ (s : Shared) (H : Hp) (C : Addr) (cd : Value) (fp : List Addr) (pn : List (Addr × Obj)), Room k (X.A.in1.in1.deeper (genEnv scope (cloFrom X.env.cells scope.names []) C cd builtinsNs X.env)) → PTs (gCx X s H (X.A.in1.in1.deeper (genEnv scope (cloFrom X.env.cells scope.names []) C cd builtinsNs X.env)) (genEnv scope (cloFrom X.env.cells scope.names []) C cd builtinsNs X.env) fp pn) ifs tt)
    (he : ∀ (s : Shared) (H : Hp) (C : Addr) (cd : Value) (fp : List Addr) (pn : List (Addr × Obj)), Room k (X.A.in1.in1.deeper (genEnv scope (cloFrom X.env.cells scope.names []) C cd builtinsNs X.env)) → PE (gCx X s H (X.A.in1.in1.deeper (genEnv scope (cloFrom X.env.cells scope.names []) C cd builtinsNs X.env)) (genEnv scope (cloFrom X.env.cells scope.names []) C cd builtinsNs X.env) fp pn) elt te)
    (hs : ∀ v, genFold iter X.env v = pure v := by intro _; rfl)
    (hst : starEach [.GeneratorExp elt [⟨tg, iter, ifs, 0⟩] scope gpos] X.env = (false, eval (.GeneratorExp elt [⟨tg, iter, ifs, 0⟩] scope gpos) X.env) :: starEach [] X.env := by rfl) :
    PE X (.Call (.Name "any" p) [.GeneratorExp elt [⟨tg, iter, ifs, 0⟩] scope gpos] [] pos) (tGen P false wi g tt te (own.map (·.2))) := by
  refine ⟨fun pins s σ H Q I h => ?_⟩
  refine wpAny_Call_Name_kw (ld_blt I hgl hm boot_any ?_)
  refine PyProof.Rows.callWith_builtin1 ?_ hst (by rfl)
  rw [hst]
  show wpAny _ _ (spliced ((false, eval (.GeneratorExp elt [⟨tg, iter, ifs, 0⟩] scope gpos) X.env) :: backTo pos (starEach [] X.env))) _ _ s
  refine Calls.spliced_cons (gen_made hr TB hcode hN ok hi hg ht he hs I h fun Z ga gn n cd s5 hp hw isg lim hgs hb hI back go => ?_)
  refine Calls.spliced_nil ?_
  refine call_function_tree F.kind_any F.plain_any F.entry_any (F.args_any1 _) ?_
  unfold Builtin.«any»
  refine wpAny_bind (m := oneArg "any" _) (wpAny_pure ?_)
  refine wpAny_bind (wpAny_pyIter_gen isg ?_)
  rw [← hp, ← hw] at *
  refine wpAny_pure ⟨plainId_quiet F.plain_any_loop _, ?_⟩
  refine any_turns (Z := Z) (A := X.A) (Q := Q) hr.hd (by have := hr.dp; omega) hI (fun b ps σ' H' s' J q => ?_) n s5 isg lim ⟨_, hgs, go _ (like_setGen hb rfl)⟩
  exact ⟨.bl b, H', back J, rfl, q⟩
theorem pe_allG {c P : Addr} {elt tg iter : Expr} {ifs : List Expr} {scope : Scope} {own : List (Str × Nat)} {pos gpos p : Pos} {wi : TI} {g : TG} {tt : TT} {te : TE} {k : Nat}
    (hr : Room (k + 1) X.A) (hgl : Gl X "all") (hm : X.mg "all" = none) (TB : TabB X.base X.mg c P) (hcode : X.env.code = .ref c) (hN : X.N.Nodup) (ok : GOk X.N X.env.scope scope own) (hi : PI X tg iter wi)
    (hg : ∀ (s : Shared) (H : Hp) (C : Addr) (cd : Value) (fp : List Addr) (pn : List (Addr × Obj)), PG (gCx X s H (X.A.in1.in1.deeper (genEnv scope (cloFrom X.env.cells scope.names []) C cd builtinsNs X.env)) (genEnv scope (cloFrom X.env.cells scope.names []) C cd builtinsNs X.env) fp pn) tg g)
    (ht : ∀ (s : Shared) (H : Hp) (C : Addr) (cd : Value) (fp : List Addr) (pn : List (Addr × Obj)), Room k (X.A.in1.in1.deeper (genEnv scope (cloFrom X.env.cells scope.names []) C cd builtinsNs X.env)) → PTs (gCx X s H (X.A.in1.in1.deeper (genEnv scope (cloFrom X.env.cells scope.names []) C cd builtinsNs X.env)) (genEnv scope (cloFrom X.env.cells scope.names []) C cd builtinsNs X.env) fp pn) ifs tt)
    (he : ∀ (s : Shared) (H : Hp) (C : Addr) (cd : Value) (fp : List Addr) (pn : List (Addr × Obj)), Room k (X.A.in1.in1.deeper (genEnv scope (cloFrom X.env.cells scope.names []) C cd builtinsNs X.env)) → PE (gCx X s H (X.A.in1.in1.deeper (genEnv scope (cloFrom X.env.cells scope.names []) C cd builtinsNs X.env)) (genEnv scope (cloFrom X.env.cells scope.names []) C cd builtinsNs X.env) fp pn) elt te)
    (hs : ∀ v, genFold iter X.env v = pure v := by intro _; rfl)
    (hst : starEach [.GeneratorExp elt [⟨tg, iter, ifs, 0⟩] scope gpos] X.env = (false, eval (.GeneratorExp elt [⟨tg, iter, ifs, 0⟩] scope gpos) X.env) :: starEach [] X.env := by rfl) :
    PE X (.Call (.Name "all" p) [.GeneratorExp elt [⟨tg, iter, ifs, 0⟩] scope gpos] [] pos) (tGen P true wi g tt te (own.map (·.2))) := by
  refine ⟨fun pins s σ H Q I h => ?_⟩
  refine wpAny_Call_Name_kw (ld_blt I hgl hm boot_all ?_)
  refine PyProof.Rows.callWith_builtin1 ?_ hst (by rfl)
  rw [hst]
  show wpAny _ _ (spliced ((false, eval (.GeneratorExp elt [⟨tg, iter, ifs, 0⟩] scope gpos) X.env) :: backTo pos (starEach [] X.env))) _ _ s
  refine Calls.spliced_cons (gen_made hr TB hcode hN ok hi hg ht he hs I h fun Z ga gn n cd s5 hp hw isg lim hgs hb hI back go => ?_)
  refine Calls.spliced_nil ?_
  refine call_function_tree F.kind_all F.plain_all F.entry_all (F.args_all1 _) ?_
  unfold Builtin.«all»
  refine wpAny_bind (m := oneArg "all" _) (wpAny_pure ?_)
  refine wpAny_bind (wpAny_pyIter_gen isg ?_)
  rw [← hp, ← hw] at *
  refine wpAny_pure ⟨plainId_quiet F.plain_all_loop _, ?_⟩
  refine all_turns (Z := Z) (A := X.A) (Q := Q) hr.hd (by have := hr.dp; omega) hI (fun b ps σ' H' s' J q => ?_) n s5 isg lim ⟨_, hgs, go _ (like_setGen hb rfl)⟩
  exact ⟨.bl b, H', back J, rfl, q⟩
end
end Gx
end Text_Ga
section Text_Gb
set_option Elab.async false
set_option linter.all false
set_option maxRecDepth 100000
set_option maxHeartbeats 4000000
namespace Gx
open PySem PySem.Spec PyProof.Rows L2 GxR
/-- n turns, with what holds ahead of each -/
theorem turns_of {J : It} {g : TG} {te : TE} {vs : List Nat} {σ0 : L2.St} {Q : VK} {neg : Bool} {H : Hp} (n : Nat) (Pv : Nat → Hp → Prop) (h0 : Pv 0 H) (hs : ∀ H, Pv n H → J.stop n H ∧ Q (.bl neg) H)
    (hg : ∀ i H, i < n → Pv i H → J.go i H ∧ ∀ x H', J.yld i H x H' → g x σ0 H' fun σ2 H2 => wipe σ2 vs = σ0 ∧ te σ2 H2 fun y H4 => ∃ c, y = .bl c ∧ (if c = neg then Pv (i + 1) H4 else Q (.bl (!neg)) H4)) :
    ∃ W : Nat → Nat → Hp → Prop, (∃ m, W 0 m H) ∧ TurnG J g tYes te vs σ0 Q neg W := by
  refine ⟨fun i m H => i + m = n ∧ Pv i H, ⟨n, Nat.zero_add n, h0⟩, fun i m H w => ?_⟩
  obtain ⟨e, p⟩ := w
  rcases Nat.lt_or_ge i n with hi | hi
  · obtain ⟨a, b⟩ := hg i H hi p
    refine .inr ⟨a, Pv (i + 1), fun H' p' => ⟨m - 1, by omega, by omega, p'⟩, fun x H' y => ?_⟩
    have q := b x H' y
    show g x σ0 H' fun σ2 H2 => wipe σ2 vs = σ0 ∧ (if true = true then te σ2 H2 fun y H4 => ∃ c, y = .bl c ∧ (if c = neg then Pv (i + 1) H4 else Q (.bl (!neg)) H4) else Pv (i + 1) H2)
    simp only [if_true]
    exact q
  · have e2 : i = n := by omega
    subst e2
    exact .inl (hs H p)
theorem wipe_one {σ : L2.St} {i : Nat} {v : Option V} : wipe ((wipe σ [i]).set i v) [i] = wipe σ [i] := by
  show ((σ.set i none).set i v).set i none = σ.set i none
  rw [List.set_set, List.set_set]
/-- any over a text's signs, the test a Bool function of the sign -/
theorem any_text {z : Str} {i : Nat} {te : TE} {σ : L2.St} {Q : VK} {H : Hp} (pb : Nat → Bool) (hte : ∀ c (Q' : VK), Q' (.bl (pb c)) H → te ((wipe σ [i]).set i (some (.str ⟨#[c]⟩))) H Q') (h : Q (.bl (z.cps.toList.any pb)) H) :
    ∃ W : Nat → Nat → Hp → Prop, (∃ m, W 0 m H) ∧ TurnG (Its z) (gName i) tYes te [i] (wipe σ [i]) Q false W := by
  refine turns_of z.cps.size (fun j H' => H' = H ∧ ∀ k c, k < j → z.cps[k]? = some c → pb c = false) ⟨rfl, fun k c hk => absurd hk (Nat.not_lt_zero k)⟩ (fun H' p => ⟨Nat.le_refl _, ?_⟩) fun j H' hj p => ⟨hj, fun x H2 y => ?_⟩
  · obtain ⟨rfl, p⟩ := p
    have e : z.cps.toList.any pb = false := by
      rw [List.any_eq_false]
      intro c hc
      obtain ⟨k, hk, e⟩ := List.getElem_of_mem hc
      have hk' : k < z.cps.size := by simpa using hk
      rw [p k c hk' (by rw [Array.getElem?_eq_getElem hk']; simpa using e)]
      decide
    rw [e] at h
    exact h
  · obtain ⟨rfl, p⟩ := p
    obtain ⟨rfl, c, hc, rfl⟩ := y
    refine ⟨wipe_one, hte c _ ⟨pb c, rfl, ?_⟩⟩
    cases hb : pb c with
    | false =>
      rw [if_pos rfl]
      refine ⟨rfl, fun k d hk hd => ?_⟩
      rcases Nat.lt_or_ge k j with q | q
      · exact p k d q hd
      · have e : k = j := by omega
        rw [e, hc] at hd
        cases hd
        exact hb
    | true =>
      have e : z.cps.toList.any pb = true := List.any_eq_true.mpr ⟨c, by
        have hl := (Array.getElem?_eq_some_iff.mp hc)
        obtain ⟨hl, e⟩ := hl
        rw [← e]
        simp, hb⟩
      rw [e] at h
      exact h
/-- all over a text's signs -/
theorem all_text {z : Str} {i : Nat} {te : TE} {σ : L2.St} {Q : VK} {H : Hp} (pb : Nat → Bool) (hte : ∀ c (Q' : VK), Q' (.bl (pb c)) H → te ((wipe σ [i]).set i (some (.str ⟨#[c]⟩))) H Q') (h : Q (.bl (z.cps.toList.all pb)) H) :
    ∃ W : Nat → Nat → Hp → Prop, (∃ m, W 0 m H) ∧ TurnG (Its z) (gName i) tYes te [i] (wipe σ [i]) Q true W := by
  refine turns_of z.cps.size (fun j H' => H' = H ∧ ∀ k c, k < j → z.cps[k]? = some c → pb c = true) ⟨rfl, fun k c hk => absurd hk (Nat.not_lt_zero k)⟩ (fun H' p => ⟨Nat.le_refl _, ?_⟩) fun j H' hj p => ⟨hj, fun x H2 y => ?_⟩
  · obtain ⟨rfl, p⟩ := p
    have e : z.cps.toList.all pb = true := by
      rw [List.all_eq_true]
      intro c hc
      obtain ⟨k, hk, e⟩ := List.getElem_of_mem hc
      have hk' : k < z.cps.size := by simpa using hk
      exact p k c hk' (by rw [Array.getElem?_eq_getElem hk']; simpa using e)
    rw [e] at h
    exact h
  · obtain ⟨rfl, p⟩ := p
    obtain ⟨rfl, c, hc, rfl⟩ := y
    refine ⟨wipe_one, hte c _ ⟨pb c, rfl, ?_⟩⟩
    cases hb : pb c with
    | true =>
      rw [if_pos rfl]
      refine ⟨rfl, fun k d hk hd => ?_⟩
      rcases Nat.lt_or_ge k j with q | q
      · exact p k d q hd
      · have e : k = j := by omega
        rw [e, hc] at hd
        cases hd
        exact hb
    | false =>
      have e : z.cps.toList.all pb = false := by
        rw [← Bool.not_eq_true, List.all_eq_true]
        intro q
        have hl := (Array.getElem?_eq_some_iff.mp hc)
        obtain ⟨hl, e⟩ := hl
        have := q c (by rw [← e]; simp)
        rw [hb] at this
        cases this
      rw [e] at h
      exact h
end Gx
namespace Gx
open PySem PySem.Spec PyProof.Rows L2 GxR
/-- a for's n turns -/
theorem for_turns {J : It} {g : TG} {tb : TS} {D : Ends} {σ : L2.St} {H : Hp} (n : Nat) (Pv : Nat → L2.St → Hp → Prop) (h0 : Pv 0 σ H)
    (hs : ∀ i σ H, i < n → Pv i σ H → J.go i H ∧ ∀ x H', J.yld i H x H' → g x σ H' fun σ2 H2 => tb { D with nx := Pv (i + 1), ct := Pv (i + 1), bk := D.nx } σ2 H2) (hd : ∀ σ H, Pv n σ H → J.stop n H ∧ D.nx σ H) :
    ∃ W : Nat → Nat → L2.St → Hp → Prop, (∃ m, W 0 m σ H) ∧ ∀ i m σ H, W i m σ H →
      (J.stop i H ∧ D.nx σ H) ∨ (J.go i H ∧ ∃ N : L2.St → Hp → Prop, (∀ σ' H', N σ' H' → ∃ m', m' < m ∧ W (i + 1) m' σ' H') ∧ ∀ x H', J.yld i H x H' → g x σ H' fun σ2 H2 => tb { D with nx := N, ct := N, bk := D.nx } σ2 H2) := by
  refine ⟨fun i m σ H => i + m = n ∧ Pv i σ H, ⟨n, Nat.zero_add n, h0⟩, fun i m σ H w => ?_⟩
  obtain ⟨e, p⟩ := w
  rcases Nat.lt_or_ge i n with hi | hi
  · obtain ⟨a, b⟩ := hs i σ H hi p
    exact .inr ⟨a, Pv (i + 1), fun σ' H' p' => ⟨m - 1, by omega, by omega, p'⟩, b⟩
  · have e2 : i = n := by omega
    subst e2
    exact .inl (hd σ H p)
/-- a list comprehension's n turns -/
theorem lc_turns {J : It} {g : TG} {tt : TT} {te : TE} {vs : List Nat} {σ : L2.St} {Q : VK} {H1 : Hp} {D : Addr} (n : Nat) (Pv : Nat → Hp → Prop) (h0 : Pv 0 (upd H1 D (.lst []))) (hs : ∀ H, Pv n H → J.stop n H ∧ Q (.ref D) H)
    (ht : ∀ i H, i < n → Pv i H → J.go i H ∧ ∀ x H', J.yld i H x H' → g x (wipe σ vs) H' fun σ2 H2 => wipe σ2 vs = wipe σ vs ∧ tt σ2 H2 fun b H3 =>
      if b = true then te σ2 H3 fun y H4 => ∃ acc, H4 D = some (.lst acc) ∧ acc.length < sizeLine ∧ Pv (i + 1) (upd H4 D (.lst (acc ++ [y]))) else Pv (i + 1) H3) :
    ∃ W : Nat → Nat → Hp → Prop, (∃ m, W 0 m (upd H1 D (.lst []))) ∧ ∀ i m H, W i m H →
      (J.stop i H ∧ Q (.ref D) H) ∨ (J.go i H ∧ ∃ Nx : Hp → Prop, (∀ H', Nx H' → ∃ m', m' < m ∧ W (i + 1) m' H') ∧ ∀ x H', J.yld i H x H' → g x (wipe σ vs) H' fun σ2 H2 => wipe σ2 vs = wipe σ vs ∧ tt σ2 H2 fun b H3 =>
        if b = true then te σ2 H3 fun y H4 => ∃ acc, H4 D = some (.lst acc) ∧ acc.length < sizeLine ∧ Nx (upd H4 D (.lst (acc ++ [y]))) else Nx H3) := by
  refine ⟨fun i m H => i + m = n ∧ Pv i H, ⟨n, Nat.zero_add n, h0⟩, fun i m H w => ?_⟩
  obtain ⟨e, p⟩ := w
  rcases Nat.lt_or_ge i n with hi | hi
  · obtain ⟨a, b⟩ := ht i H hi p
    exact .inr ⟨a, Pv (i + 1), fun H' p' => ⟨m - 1, by omega, by omega, p'⟩, b⟩
  · have e2 : i = n := by omega
    subst e2
    exact .inl (hs H p)
end Gx
end Text_Gb
section Text_Gc
set_option Elab.async false
set_option linter.all false
set_option maxRecDepth 100000
set_option maxHeartbeats 4000000
namespace GxR
open PySem PySem.Spec PyProof.Rows L2 Gx
theorem take_succ_mem {α : Type} {xs : List α} {j : Nat} {x y : α} (h : xs[j]? = some x) (m : y ∈ xs.take (j + 1)) : y ∈ xs.take j ∨ y = x := by
  rw [List.take_add_one, h] at m
  rcases List.mem_append.mp m with m | m
  · exact .inl m
  · exact .inr (by simpa using m)
/-- any over a list of texts, the test a Bool function of the text; what holds of the heap meanwhile: Pv -/
theorem any_texts {K : PySem.W.Frag} {a : Addr} {xs : List Str} {i : Nat} {te : TE} {σ : L2.St} {Q : VK} {H : Hp} (Pv : Hp → Prop) (pb : Str → Bool) (hP : Pv H) (hl : ∀ G, Pv G → SqL K G a (xs.map V.str))
    (hte : ∀ x ∈ xs, ∀ (G : Hp) (Q' : VK), Pv G → (∀ G', Pv G' → Q' (.bl (pb x)) G') → te ((wipe σ [i]).set i (some (.str x))) G Q') (h : ∀ G, Pv G → Q (.bl (xs.any pb)) G) :
    ∃ W : Nat → Nat → Hp → Prop, (∃ m, W 0 m H) ∧ TurnG (Itl K a) (gName i) tYes te [i] (wipe σ [i]) Q false W := by
  refine turns_of xs.length (fun j G => Pv G ∧ ∀ x ∈ xs.take j, pb x = false) ⟨hP, fun x hx => by simp at hx⟩ (fun G p => ⟨⟨_, hl G p.1, by simp⟩, ?_⟩) fun j G hj p => ⟨⟨_, .str xs[j], hl G p.1, by simp [hj]⟩, fun x G2 y => ?_⟩
  · have e : xs.any pb = false := by
      rw [List.any_eq_false]
      intro c hc
      have := p.2 c (by rw [List.take_length]; exact hc)
      simp [this]
    have q := h G p.1
    rw [e] at q
    exact q
  · obtain ⟨rfl, y⟩ := y
    have y' := y _ (hl _ p.1)
    have ej : xs[j]? = some xs[j] := by simp [hj]
    rw [List.getElem?_map, ej] at y'
    obtain rfl := (Option.some.inj y').symm
    refine ⟨wipe_one, hte _ (List.getElem_mem hj) _ _ p.1 fun G' p' => ⟨_, rfl, ?_⟩⟩
    by_cases hb : pb xs[j] = true
    · rw [hb]
      have e : xs.any pb = true := List.any_eq_true.mpr ⟨_, List.getElem_mem hj, hb⟩
      have q := h G' p'
      rw [e] at q
      exact q
    · have hb' : pb xs[j] = false := by simpa using hb
      rw [hb']
      refine ⟨p', fun x hx => ?_⟩
      rcases take_succ_mem ej hx with m | m
      · exact p.2 x m
      · rw [m]; exact hb'
/-- a dict comprehension over a list -/
theorem dc_list {K : PySem.W.Frag} {a : Addr} {xs : List V} {g : TG} {tt : TT} {tk tv : TE} {vs : List Nat} {σ : L2.St} {H1 : Hp} {D : Addr} {Qd : Hp → Prop} (Pv : Nat → Hp → Prop) (h0 : Pv 0 (upd H1 D (.dK []))) (hl : ∀ i H, i ≤ xs.length → Pv i H → SqL K H a xs)
    (hs : ∀ i x H, xs[i]? = some x → Pv i H → g x (wipe σ vs) H fun σ2 H2 => wipe σ2 vs = wipe σ vs ∧ tt σ2 H2 fun b H3 =>
      if b = true then tk σ2 H3 fun y H4 => tv σ2 H4 fun z H5 => ∃ kvs k, y = kV k ∧ H5 D = some (.dK kvs) ∧ kvs.length < sizeLine ∧ Pv (i + 1) (upd H5 D (.dK (putK kvs k z))) else Pv (i + 1) H3) (hd : ∀ H, Pv xs.length H → Qd H) :
    ∃ W : Nat → Nat → Hp → Prop, (∃ m, W 0 m (upd H1 D (.dK []))) ∧ ∀ i m H, W i m H →
      ((Itl K a).stop i H ∧ Qd H) ∨ ((Itl K a).go i H ∧ ∃ Nx : Hp → Prop, (∀ H', Nx H' → ∃ m', m' < m ∧ W (i + 1) m' H') ∧ ∀ x H', (Itl K a).yld i H x H' → g x (wipe σ vs) H' fun σ2 H2 => wipe σ2 vs = wipe σ vs ∧ tt σ2 H2 fun b H3 =>
        if b = true then tk σ2 H3 fun y H4 => tv σ2 H4 fun z H5 => ∃ kvs k, y = kV k ∧ H5 D = some (.dK kvs) ∧ kvs.length < sizeLine ∧ Nx (upd H5 D (.dK (putK kvs k z))) else Nx H3) := by
  refine ⟨fun i m H => i + m = xs.length ∧ Pv i H, ⟨xs.length, Nat.zero_add _, h0⟩, fun i m H w => ?_⟩
  obtain ⟨e, p⟩ := w
  have q := hl i H (by omega) p
  rcases Nat.lt_or_ge i xs.length with hi | hi
  · refine .inr ⟨⟨xs, xs[i], q, by simp [hi]⟩, Pv (i + 1), fun H' p' => ⟨m - 1, by omega, by omega, p'⟩, fun x H' y => ?_⟩
    obtain ⟨e2, y⟩ := y
    subst e2
    exact hs i x _ (y xs q) p
  · have e2 : i = xs.length := by omega
    subst e2
    exact .inl ⟨⟨xs, q, Nat.le_refl _⟩, hd H p⟩
end GxR
end Text_Gc
section Text_Gl
set_option Elab.async false
set_option linter.all false
set_option maxRecDepth 100000
set_option maxHeartbeats 4000000
/-! LamY: lambdas without parameters and captured names, as values that stand in lists, and called by the name of a variable. -/
namespace LamY
open PySem PySem.Spec PyProof.Rows L2
/-- what stands at f is ob -/
def LamO (f : Addr) (ob : Obj) : HO := .ext fun h => h.get? f = some ob
theorem lamO_ok {P : Program} {w : World} {H : Hp} {h : Heap} {f : Addr} {ob : Obj} (e : h.get? f = some ob) : ObjOk P w H h f (LamO f ob) := ⟨e, ⟨_, e⟩, fun _ _ e1 k => k _ e1⟩
/-- at f stands a lambda of this text; its code object is known -/
def LamAt (H : Hp) (f : Addr) (q : Str) (params : Arguments) (body : Expr) (scope : Scope) : Prop :=
  ∃ pm c' ctv, H f = some (LamO f (PySem.W.kla_obj "<lambda>" q params body scope [] pm c' ctv)) ∧ H c' = some (LamX.CodeO c' q)
theorem LamAt.ext {H H' : Hp} {f : Addr} {q : Str} {params : Arguments} {body : Expr} {scope : Scope} (l : LamAt H f q params body scope) (e : LamX.ExtN H H') : LamAt H' f q params body scope := by
  obtain ⟨pm, c', ctv, h1, h2⟩ := l
  exact ⟨pm, c', ctv, e _ _ h1 (fun _ z => by unfold LamO at z; cases z), e _ _ h2 LamX.codeO_ne⟩
/-- all but the table at P stays -/
def But (P : Addr) (H H' : Hp) : Prop := ∀ b o, b ≠ P → H b = some o → H' b = some o
/-- a lambda is made -/
def tLamb (P : Addr) (q : Str) (params : Arguments) (body : Expr) (scope : Scope) : TE := fun _ H Q => LamX.TabS H P q ∧ ∀ H1 f, But P H H1 → LamX.TabS H1 P q → LamAt H1 f q params body scope → Q (.ref f) H1
section
variable {X : Cx} {pins : List (Addr × Obj)} {σ : L2.St} {H : Hp} {s : Shared}
theorem pe_lambda {c P : Addr} {params : Arguments} {body : Expr} {scope : Scope} {pos : Pos} (TB : LamX.TabB X.base X.mg c P) (hcode : X.env.code = .ref c) (hdef : defaultsOf params X.env = ([], []))
    (hfree : ∀ y ∈ scope.names, y.2 ≠ .free) (hcl : cloFrom X.env.cells scope.names [] = []) : PE X (.Lambda params body scope pos) (tLamb P (X.env.qual ++ "<lambda>") params body scope) := by
  refine ⟨fun pins s σ H Q I h => ?_⟩
  obtain ⟨hT, h⟩ := h
  obtain ⟨ps, hP, ht, ha⟩ := hT
  refine PySem.W.kla_eval hdef ?_
  have bP := TB.bm.keeps I.bk
  have tabP : s.heap.get? P = some { cls := .none, data := .fields ps } := I.hok P _ hP
  have hclo : ∀ y ∈ scope.names, y.2 = .free → ∃ c, X.env.cells.lookup y.1 = some c := fun y hy e => absurd e (hfree y hy)
  cases hc : codeAmong pos ps.toList with
  | none =>
    refine PySem.W.kla_makeFunction (mg := X.mg) (c := c) (P := P) (ps := ps) (closure_ok hclo) I.ok.glob (I.mod.glob.keeps I.bk) hcode (TB.code.keeps I.bk) tabP ht hc TB.gP bP ?_
    intro c' ctv h' tk hx hge hlt hrec htb
    obtain ⟨c2, oc, vs, t, e2, hoc, hd, hv⟩ := hrec
    cases e2
    have nC : H c' = none := I.hok.fresh hge
    have I1 := LamX.inv_table (t' := tk) (more := #[rawInt pos.line, rawInt pos.col, .ref c']) (h' := h') I hP (fun b o hb e => hx b o hb e) htb hge ⟨oc, vs, t, hoc, hd, hv⟩
    have fr1 := I1.hok.fresh (Nat.le_refl h'.objs.size)
    have I2 := I1.laid (a := h'.objs.size) (o := LamO h'.objs.size (PySem.W.kla_obj "<lambda>" (X.env.qual ++ "<lambda>") params body scope [] ((X.mg "__name__").getD .none) c' ctv))
      (h' := h'.push (PySem.W.kla_obj "<lambda>" (X.env.qual ++ "<lambda>") params body scope [] ((X.mg "__name__").getD .none) c' ctv)) (t' := tk) (fun b u e => Heap.get?_push_of_some _ e) (Nat.le_refl _) (lamO_ok (Heap.get?_push_size _ rfl))
    have but1 : But P H (upd (upd H P (.tbl (ps ++ #[rawInt pos.line, rawInt pos.col, .ref c']))) c' (LamX.CodeO c' (X.env.qual ++ "<lambda>"))) := fun b o hb e => by
      rw [upd_ne (ne_of_none e nC), upd_ne hb]
      exact e
    have up : ∀ b o, (upd (upd H P (.tbl (ps ++ #[rawInt pos.line, rawInt pos.col, .ref c']))) c' (LamX.CodeO c' (X.env.qual ++ "<lambda>"))) b = some o → ∀ u, upd (upd (upd H P (.tbl (ps ++ #[rawInt pos.line, rawInt pos.col, .ref c']))) c' (LamX.CodeO c' (X.env.qual ++ "<lambda>"))) h'.objs.size u b = some o := fun b o e u => by
      rw [upd_ne (ne_of_none e fr1)]
      exact e
    have eL : (ps ++ #[rawInt pos.line, rawInt pos.col, .ref c']).toList = ps.toList ++ [rawInt pos.line, rawInt pos.col, .ref c'] := by simp
    have nPc : P ≠ c' := ne_of_none hP nC
    rw [hcl]
    refine h _ _ (fun b o hb e => up b o (but1 b o hb e) _) ⟨_, up _ _ (by rw [upd_ne nPc, upd_same]) _, by rw [eL]; exact PySem.TriplesOk_snoc _ _ _ _ ht, fun p' cv hcv => ?_⟩ ⟨_, c', ctv, upd_same, up _ _ upd_same _⟩ |> fun q => ⟨.ref h'.objs.size, _, I2, rfl, q⟩
    rw [eL] at hcv
    rcases LamX.among_app _ ht hcv with z | z
    · obtain ⟨c0, e1, e2⟩ := ha p' cv z
      exact ⟨c0, e1, up _ _ (but1 _ _ (fun q => by rw [q, hP] at e2; exact LamX.codeO_ne _ (Option.some.inj e2).symm) e2) _⟩
    · exact ⟨c', z, up _ _ upd_same _⟩
  | some cv =>
    obtain ⟨c', e, hco⟩ := ha pos cv hc
    subst e
    refine PySem.W.kla_makeFunctionHit (mg := X.mg) (c := c) (P := P) (ps := ps) (closure_ok hclo) I.ok.glob (I.mod.glob.keeps I.bk) hcode (TB.code.keeps I.bk) tabP ht hc bP ?_
    intro ctv h' tk hx hsz
    have I2 := I.laid (a := h'.objs.size) (o := LamO h'.objs.size (PySem.W.kla_obj "<lambda>" (X.env.qual ++ "<lambda>") params body scope [] ((X.mg "__name__").getD .none) c' ctv))
      (h' := h'.push (PySem.W.kla_obj "<lambda>" (X.env.qual ++ "<lambda>") params body scope [] ((X.mg "__name__").getD .none) c' ctv)) (t' := tk) (fun b u e => Heap.get?_push_of_some _ (hx b u e)) hsz (lamO_ok (Heap.get?_push_size _ rfl))
    have fr1 := I.hok.fresh hsz
    have up : ∀ b o, H b = some o → ∀ u, upd H h'.objs.size u b = some o := fun b o e u => by
      rw [upd_ne (ne_of_none e fr1)]
      exact e
    rw [hcl]
    refine ⟨.ref h'.objs.size, _, I2, rfl, h _ _ (fun b o _ e => up b o e _) ⟨ps, up _ _ hP _, ht, fun p' cv hcv => ?_⟩ ⟨_, c', ctv, upd_same, up _ _ hco _⟩⟩
    obtain ⟨c0, e1, e2⟩ := ha p' cv hcv
    exact ⟨c0, e1, up _ _ e2 _⟩
/-- some reading of several -/
theorem pe_some {ι : Type} {e : Expr} {t : ι → TE} (h : ∀ j, PE X e (t j)) : PE X e (fun σ H Q => ∃ j, t j σ H Q) := ⟨fun pins s σ H Q I ⟨j, q⟩ => (h j).run pins s σ H Q I q⟩
/-- x(), x a name of ours that holds a lambda -/
theorem pe_callL {CX : CXT} {i k : Nat} {a q : Str} {params : Arguments} {body : Expr} {scope : Scope} {tb : XK → TE} {E : L2.St → XK} {p1 p2 : Pos} (hN : X.N[i]? = some a) (hv : Vis X.env.scope a) (hr : Room (k + 1) X.A) (S : FnScope [] [] scope)
    (hbind : ∀ pm cv ctv, bindArgs (PySem.W.kla_fn "<lambda>" q params body scope [] pm cv ctv) ⟨[], []⟩ = pure []) (hx : ∀ σ, PassesAt CX X σ (E σ))
    (hbody : ∀ (f c' : Addr) (A : Around) (outer : List Env) (s : Shared) (H : Hp) (E : XK), Room k (A.deeper (envOfC q scope s.heap.objs.size f (.ref c'))) → PE (cxOf CX X.prog X.w X.K X.mg X.base [] q scope f (.ref c') A outer s H E) body (tb E))
    (hd : (a == ("__debug__" : Str)) = false := by decide) (hcd : (a == ("__classdict__" : Str)) = false := by decide) :
    PE X (.Call (.Name a p1) [] [] p2) (fun σ H Q => ∃ f, σ[i]? = some (some (.ref f)) ∧ LamAt H f q params body scope ∧ tb (E σ) [] H Q) := by
  refine ⟨fun pins s σ H Q I h => ?_⟩
  obtain ⟨f, hs, ⟨pm, c', ctv, hf, hco⟩, ht⟩ := h
  refine wpAny_Call_Name_kw (thn ((pe_var (pos := p1) (i := i) hN hv hd hcd).run pins s σ H (fun v H1 => v = .ref f ∧ H1 = H) I ⟨.ref f, hs, rfl, rfl⟩) fun u s1 ⟨v, H1, I1, r1, q1⟩ => ?_)
  obtain ⟨ev, eH⟩ := q1
  subst ev
  rw [eH] at I1
  obtain rfl : u = Value.ref f := r1
  have of1 : s1.heap.get? f = some (PySem.W.kla_obj "<lambda>" q params body scope [] pm c' ctv) := (I1.hok f _ hf).1
  obtain ⟨⟨oc, vs, t, hoc, hdc, hvc⟩, _, _⟩ := I1.hok c' _ hco
  refine PySem.W.callWith_F0 ⟨_, _, _, _, of1⟩ ?_
  have e0 := I1.env0
  have lim : s1.heap.NoLimit := I1.nolimit
  have rc : codeAny (model X.prog X.w) X.A (.call (.ref f) ⟨[], []⟩) (CR CX X.stack X.prog X.w H s1 Q (E σ)) s1 := by
    refine PySem.W.kla_callFunE hr.depth of1 rfl S.co S.gen rfl ⟨c', oc, vs, t, rfl, hoc, hdc, hvc⟩ ?_
    rw [hbind]
    refine wpAny_pure (wpAny_newFunctionEnv_cells S.kind (fun y hy => absurd hy (by simp)) fun env he s2 x => ?_)
    subst he
    refine ⟨lim.keeps x.toInCall.keep, PySem.W.kla_codeExpr ?_⟩
    have J : Inv (cxOf CX X.prog X.w X.K X.mg X.base [] q scope f (.ref c') X.A X.stack s1 H (E σ)) [] (L2.start [] []) H s2 := inv_start (us := []) (ps := []) S hr.hd e0 rfl .nil x
    refine wpAny_mono ((hbody f c' X.A X.stack s1 H (E σ) (hr.deeper _)).run [] s2 _ H Q J ht) (fun v s' hq => ?_) fun e s' hq => hq
    obtain ⟨w', H', J', rv, q⟩ := hq
    exact ⟨w', H', J'.os, J'.bare, J'.base, J'.hok, rv, q⟩
  refine wpAny_call (codeAny_mono rc fun r s' hq => ?_)
  cases r with
  | error e => exact hx σ pins H s1 e s' I1 hq
  | ok fl =>
    cases fl with
    | ret u => exact I1.after hq
    | next => exact False.elim hq
    | brk => exact False.elim hq
    | cont => exact False.elim hq
end
end LamY
end Text_Gl
section Text_Gd
set_option Elab.async false
set_option linter.all false
set_option maxRecDepth 100000
set_option maxHeartbeats 4000000
/-! Gd: generator expressions of any consumer, and such as hold others within. -/
namespace Gx
open PySem PySem.Spec PyProof.Rows L2 GxR
/-- what a consumer does with an item, and what holds ahead of the next turn -/
abbrev Con := V → Hp → (Hp → Prop) → Prop
def Con.Mono (C : Con) : Prop := ∀ (y : V) (H : Hp) (k k' : Hp → Prop), (∀ G, k G → k' G) → C y H k → C y H k'
/-- the end of the walk: nothing is left; r: what is known of the state at the last waking -/
def RK (Z : Cx) (Qe : Hp → Prop) (r : Shared → Hp → Prop) : GenEnd := fun _ s₀ o s₁ => o = .ok .next ∧ ∃ σ' H', Inv Z [] σ' H' s₁ ∧ Qe H' ∧ r s₀ H'
/-- an item is handed out -/
def YK (Z : Cx) (C : Hp → Con) (r : Shared → Hp → Prop) : Protocol := fun _ s₀ v s₁ kap => ∃ y ps σ' H' H0, L2.RelV y v ∧ Inv Z ps σ' H' s₁ ∧ r s₀ H' ∧ C H0 y H' fun H2 => ∀ s', Inv Z ps σ' H2 s' → r s' H2 → kap (.send .none) s'
/-- what comes of an item that a test leaves out -/
abbrev Lef := Hp → Hp → (Hp → Prop) → Prop
def TurnK (J : It) (g : TG) (tt : TT) (te : TE) (vs : List Nat) (σ0 : L2.St) (C : Hp → Con) (F : Lef) (Qe : Hp → Prop) (W : Nat → Nat → Hp → Prop) : Prop :=
  ∀ i m H, W i m H → (J.stop i H ∧ Qe H) ∨ (J.go i H ∧ ∃ Nx : Hp → Prop, (∀ H', Nx H' → ∃ m', m' < m ∧ W (i + 1) m' H') ∧
    ∀ x H', J.yld i H x H' → g x σ0 H' fun σ2 H2 => wipe σ2 vs = σ0 ∧ tt σ2 H2 fun b H3 => if b = true then te σ2 H3 fun y H4 => C H y H4 Nx else F H H3 Nx)
/-- the consumer keeps what is known of the last waking -/
structure Keeps (r : Shared → Hp → Prop) (C : Hp → Con) (F : Lef) : Prop where
  mono : ∀ H, (C H).Mono
  item : ∀ s₀ H y H4 k, C H y H4 k → r s₀ H → r s₀ H4
  left : ∀ s₀ H H3 k, F H H3 k → r s₀ H → r s₀ H3 ∧ k H3
/-- a consumer that asks nothing of the last waking -/
def rT : Shared → Hp → Prop := fun _ _ => True
def fT : Lef := fun _ H k => k H
theorem Con.Mono.keeps {C : Con} (h : C.Mono) : Keeps rT (fun _ => C) fT := ⟨fun _ => h, fun _ _ _ _ _ _ _ => trivial, fun _ _ _ _ q _ => ⟨trivial, q⟩⟩
abbrev RV (Z : Cx) (Qe : Hp → Prop) : GenEnd := RK Z Qe rT
abbrev YV (Z : Cx) (C : Con) : Protocol := YK Z (fun _ => C) rT
abbrev TurnV (J : It) (g : TG) (tt : TT) (te : TE) (vs : List Nat) (σ0 : L2.St) (C : Con) (Qe : Hp → Prop) (W : Nat → Nat → Hp → Prop) : Prop := TurnK J g tt te vs σ0 (fun _ => C) fT Qe W

section
variable {Z : Cx}
theorem segV_turns {A : Around} {elt tg iter : Expr} {ifs : List Expr} {scope : Scope} {pos : Pos} {it : Addr} {fp : List Addr} {tn : Nat → Heap → Prop} {J : It} {g : TG} {tt : TT} {te : TE} {vs : List Nat} {σ0 : L2.St} {C : Hp → Con} {F : Lef} {Qe : Hp → Prop} {r : Shared → Hp → Prop}
    {W : Nat → Nat → Hp → Prop} (hA : A.over (.compLoop (.GeneratorExp elt [⟨tg, iter, ifs, 0⟩] scope pos) 0 (.ref it) .none Z.env) [] = Z.A) (hx : Z.xe = fun _ _ => False) (hco : Z.env.scope.isCoroutine = false) (hcalm : Z.calm = true) (hex : Z.ex = fp)
    (hpn : ∀ p ∈ Z.pn, ∀ b ∈ fp, p.1 ≠ b) (T : Turn Z.prog Z.w Z.K tg J fp it tn) (pg : PG Z tg g) (pt : PTs Z ifs tt) (pe : PE Z elt te) (hW : TurnK J g tt te vs σ0 C F Qe W) (hC : Keeps r C F) :
    ∀ (m n i : Nat) (s₀ s : Shared) (H : Hp), m + 1 ≤ n → Inv Z [] σ0 H s → tn i s.heap → (∀ b ∈ fp, H b = none) → W i m H → r s₀ H →
      Seg (model Z.prog Z.w) A (RK Z Qe r) (YK Z C r) n s₀ (.compLoop (.GeneratorExp elt [⟨tg, iter, ifs, 0⟩] scope pos) 0 (.ref it) .none Z.env)
        ((model Z.prog Z.w).den (.compLoop (.GeneratorExp elt [⟨tg, iter, ifs, 0⟩] scope pos) 0 (.ref it) .none Z.env)) [] s := by
  have stat : ∀ {σ' : L2.St} {H' : Hp} {s' : Shared}, Inv Z [] σ' H' s' → (∀ b ∈ fp, H' b = none) → ∀ b ∈ fp, FpOk Z [] H' b := fun {σ' H' s'} I hn b hb => by
    have hb' : b ∈ Z.ex := by rw [hex]; exact hb
    refine ⟨hn b hb, (I.ok.exf b hb').1, I.ok.exfs b hb', .inl hb', (I.ok.exf b hb').2, fun p hp => hpn p ?_ b hb⟩
    simpa using hp
  intro m
  induction m using Nat.strongRecOn with
  | ind m ih =>
    intro n i s₀ s H hmn I st nf w rr
    obtain ⟨n, rfl⟩ : ∃ k, n = k + 1 := ⟨n - 1, by omega⟩
    show Seg _ A _ _ _ s₀ _ ((compTurn (.GeneratorExp elt [⟨tg, iter, ifs, 0⟩] scope pos) 0 (.ref it) .none Z.env).onRaise (leaving Z.env)) [] s
    rw [compTurn_gen, Sem.onRaise_eq_wrap]
    refine seg_bind_wrap (wpAny_standAt ?_)
    rcases hW i m H w with ⟨stop, qq⟩ | ⟨go, Nx, hNx, step⟩
    · have td := T.done Z rfl rfl rfl hcalm i [] s σ0 H (fun _ _ => False) I (stat I nf) st stop
      refine seg_bind_wrap ?_
      rw [hA]
      refine thnF td fun r s1 hr => ?_
      obtain ⟨hr, I1⟩ := hr
      subst hr
      exact seg_end (.ok .next) ⟨rfl, σ0, H, I1, qq, rr⟩
    · have ti := T.item Z rfl rfl rfl hcalm i [] s σ0 H (fun _ _ => False) I (stat I nf) st go
      refine seg_bind_wrap ?_
      rw [hA]
      refine thnF ti fun r s1 hr => ?_
      obtain ⟨u, hr, h1⟩ := hr
      subst hr
      refine seg_bind_wrap ?_
      rw [hA]
      refine thnF h1 fun _ s2 h2 => ?_
      obtain ⟨x, H2, I2, r2, y2, st2, n2⟩ := h2
      have I2' := I2.pinned (stat I2 n2) (T.obj _ _ st2)
      refine seg_bind_wrap ?_
      rw [hA]
      have h3 := pg.run _ s2 _ H2 x u _ I2' r2 (step x H2 y2)
      rw [hx] at h3
      refine thnF h3 fun _ s3 q3 => ?_
      obtain ⟨σ3, H3, I3, hw3, q3⟩ := q3
      refine seg_bind_wrap ?_
      rw [hA]
      have h4 := pt.run _ s3 σ3 H3 _ I3 q3
      rw [hx] at h4
      refine thnF h4 fun b s4 q4 => ?_
      obtain ⟨H4, I4, q4⟩ := q4
      -- a turn's end
      have hl : σ0.length = σ3.length := by rw [← hw3, wipe_length]
      have hk : ∀ (j : Nat) v, σ0[j]? = some (some v) → σ3[j]? = some (some v) := fun j v e => by
        rw [← hw3] at e
        exact (wipe_some e).1
      have fin : ∀ {k : Nat} {s₀' s' : Shared} {H' : Hp}, m ≤ k → Inv Z ([] ++ pinsAt fp s2.heap) σ3 H' s' → Nx H' → r s₀' H' →
          Seg (model Z.prog Z.w) A (RK Z Qe r) (YK Z C r) k s₀' (.compLoop (.GeneratorExp elt [⟨tg, iter, ifs, 0⟩] scope pos) 0 (.ref it) .none Z.env) ((model Z.prog Z.w).den (.compLoop (.GeneratorExp elt [⟨tg, iter, ifs, 0⟩] scope pos) 0 (.ref it) .none Z.env)) [] s' := fun {k s₀' s' H'} hk' I' nx r' => by
        obtain ⟨m', hm, w'⟩ := hNx H' nx
        have pin' : ∀ b ∈ fp, ∀ o, s2.heap.get? b = some o → s'.heap.get? b = some o ∧ H' b = none := fun b hb o e =>
          let z := I'.pin (b, o) (List.mem_append_right _ (List.mem_append_right _ (mem_pinsAt hb e)))
          ⟨z.1, z.2.1⟩
        refine ih m' hm k (i + 1) s₀' s' H' (by omega) ((I'.unpinned (pins := [])).weak hl hk) (T.keep _ _ _ st2 fun b hb o e => (pin' b hb o e).1) (fun b hb => ?_) w' r'
        obtain ⟨o, e, _⟩ := T.obj _ _ st2 b hb
        exact (pin' b hb o e).2
      cases b with
      | false =>
        simp only [Bool.false_eq_true, if_false] at q4 ⊢
        exact seg_again rfl (fin (by omega) I4 (hC.left _ _ _ _ q4 rr).2 (hC.left _ _ _ _ q4 rr).1)
      | true =>
        simp only [if_true] at q4 ⊢
        have hy : ∀ v, yieldOut Z.env v = yieldValue v := fun v => by simp only [yieldOut, hco, Bool.false_eq_true, if_false]
        simp only [hy]
        rw [Sem.bind_eq_wrap', Sem.bind_eq_wrap', Sem.wrap_wrap, Sem.wrap_wrap]
        refine seg_wrap ?_
        rw [hA]
        have h5 := pe.run _ s4 σ3 H4 _ I4 q4
        rw [hx] at h5
        refine thnF h5 fun v s5 q5 => ?_
        obtain ⟨yv, H5, I5, r5, q5⟩ := q5
        exact seg_at (seg_yield rfl rfl rfl ⟨yv, _, σ3, H5, H, r5, I5, hC.item _ _ _ _ _ q5 rr, hC.mono _ _ _ _ _ (fun H2 nx s' I' r' => seg_again rfl (fin (by omega) I' nx r')) q5⟩)
end
section
variable {Z : Cx}
theorem segV_first {A : Around} {elt tg iter : Expr} {ifs : List Expr} {scope : Scope} {pos : Pos} {it : Addr} {fp : List Addr} {tn : Nat → Heap → Prop} {J : It} {g : TG} {tt : TT} {te : TE} {vs : List Nat} {σ0 : L2.St} {C : Hp → Con} {F : Lef} {Qe : Hp → Prop} {r : Shared → Hp → Prop}
    {W : Nat → Nat → Hp → Prop} (hA : A.deeper Z.env = Z.A) (hx : Z.xe = fun _ _ => False) (hco : Z.env.scope.isCoroutine = false) (hcalm : Z.calm = true) (hex : Z.ex = fp)
    (hpn : ∀ p ∈ Z.pn, ∀ b ∈ fp, p.1 ≠ b) (T : Turn Z.prog Z.w Z.K tg J fp it tn) (pg : PG Z tg g) (pt : PTs Z ifs tt) (pe : PE Z elt te) (hW : TurnK J g tt te vs σ0 C F Qe W) (hC : Keeps r C F)
    (m n : Nat) (s₀ s : Shared) (H : Hp) (hm : m + 1 ≤ n) (I : Inv Z [] σ0 H s) (st : tn 0 s.heap) (nf : ∀ b ∈ fp, H b = none) (w : W 0 m H) (rr : r s₀ H) :
      Seg (model Z.prog Z.w) A (RK Z Qe r) (YK Z C r) n s₀ (.compStart (.GeneratorExp elt [⟨tg, iter, ifs, 0⟩] scope pos) 0 (.ref it) .none Z.env)
        ((model Z.prog Z.w).den (.compStart (.GeneratorExp elt [⟨tg, iter, ifs, 0⟩] scope pos) 0 (.ref it) .none Z.env)) [] s := by
  have loop := fun s₀ => segV_turns (A := A) (pos := pos) (scope := scope) (iter := iter) (over_loop.trans hA) hx hco hcalm hex hpn T pg pt pe hW hC m n 0 s₀ s H hm I st nf w
  show Seg _ A _ _ _ s₀ _ ((compStart (.GeneratorExp elt [⟨tg, iter, ifs, 0⟩] scope pos) 0 (.ref it) .none Z.env).onRaise (leaving Z.env)) [] s
  unfold compStart
  rw [Sem.onRaise_eq_wrap]
  show Seg _ A _ _ _ s₀ _ ((ask >>= _).wrap _ _ _ _) [] s
  refine seg_bind_wrap (wpAny_askSetting ?_)
  split
  · exact seg_again rfl (loop s₀ rr)
  · first
      | exact seg_bind_wrap (wpAny_rule (seg_bind_wrap (wpAny_standAt (seg_bind_wrap (T.self _ 0 s _ _ st (seg_again rfl (loop s₀ rr)))))))
      | (refine seg_bind_wrap (wpAny_rule ?_); show Seg _ A _ _ _ s₀ _ ((standAt iter.pos >>= _).wrap _ _ _ _) [] s; exact seg_bind_wrap (wpAny_standAt (seg_bind_wrap (T.self _ 0 s _ _ st (seg_again rfl (loop s₀ rr))))))

end

/-- the code object of a generator expression is made, or found: what is asked ahead, what holds of it behind -/
def MkC (X : Cx) (pos : Pos) (qual : Str) (scope : Scope) (Pre : Hp → Prop) (Post : Hp → Hp → Value → Prop) : Prop :=
  ∀ (pins : List (Addr × Obj)) (σ : L2.St) (H : Hp) (s : Shared) (E : Value → Shared → Prop) (Q : Value → Shared → Prop), Inv X pins σ H s → Pre H →
    (∀ cd s' H', Inv X pins σ H' s' → Post H H' cd → (∀ b, H b = none → b < s.heap.objs.size → H' b = none) → (∀ b o, H b = none → s.heap.get? b = some o → s'.heap.get? b = some o) → Q cd s') →
    wpAny (model X.prog X.w) X.A (genexprCode X.env pos qual scope) Q E s
/-- a code object known by what a making of another one asks of it -/
def CodeG (c P : Addr) : HO := .ext fun h => PySem.W.CodeHd h c P
theorem codeG_ne {c P : Addr} (ps : Array Value) : CodeG c P ≠ .tbl ps := fun z => by
  unfold CodeG at z
  cases z
theorem codeG_hd {X : Cx} {pins : List (Addr × Obj)} {σ : L2.St} {H : Hp} {s : Shared} {c P : Addr} (I : Inv X pins σ H s) (e : H c = some (CodeG c P)) : PySem.W.CodeHd s.heap c P := (I.hok c _ e).1
theorem codeHd_one {h : Heap} {c P P' : Addr} (a : PySem.W.CodeHd h c P) (b : PySem.W.CodeHd h c P') : P = P' := by
  obtain ⟨o, vs, _, _, _, _, _, _, _, e1, _, e3, e4, _⟩ := a
  obtain ⟨o', vs', _, _, _, _, _, _, _, f1, _, f3, f4, _⟩ := b
  rw [e1] at f1
  cases f1
  rw [e3] at f3
  cases f3
  rw [e4] at f4
  cases f4
  rfl
/-- a table whose code objects are known, each with a table of its own -/
def TabN (H : Hp) (P : Addr) (L : List Addr) : Prop := ∃ ps : Array Value, H P = some (.tbl ps) ∧ TriplesOk ps.toList ∧ ∀ (pos : Pos) (cv : Value), codeAmong pos ps.toList = some cv → ∃ c' P', cv = .ref c' ∧ H c' = some (CodeG c' P') ∧ TabG H P' ∧ P' ≠ P ∧ P' ∉ L
theorem TabN.tab {H : Hp} {P : Addr} {L : List Addr} (t : TabN H P L) : TabG H P := let ⟨ps, a, b, _⟩ := t; ⟨ps, a, b⟩
theorem TabN.nil {H : Hp} {P : Addr} {L : List Addr} (h : H P = some (.tbl #[])) : TabN H P L := ⟨#[], h, True.intro, fun pos cv hc => by cases hc⟩

section
variable {X : Cx}
theorem mkC_of {pos : Pos} {qual : Str} {scope : Scope} {Pre : Hp → Prop} {Post : Hp → Hp → Value → Prop} {c : Value}
    (hcode : X.env.code = c) (hd : ∀ {pins σ H s}, Inv X pins σ H s → Pre H → ∃ c1 P, c = .ref c1 ∧ PySem.W.CodeHd s.heap c1 P ∧ TabG H P ∧ ∀ H' cd, Tabbed P H H' → Post H H' cd) : MkC X pos qual scope Pre Post := by
  intro pins σ H s E Q I hp k
  obtain ⟨c1, P, ec, cd2, ⟨ps, hP, hok⟩, hq⟩ := hd I hp
  have hcode : X.env.code = .ref c1 := hcode.trans ec
  have hPs : s.heap.get? P = some { cls := .none, data := .fields ps } := I.hok P _ hP
  have nP : ∀ b, H b = none → b ≠ P := fun b e z => by
    rw [z, hP] at e
    cases e
  cases hf : codeAmong pos ps.toList with
  | some cv =>
    refine wpAny_genexprCode_hit hcode (cd2.code hPs hok) hf ?_
    exact k cv s H I (hq H cv ⟨⟨ps, hP, hok⟩, fun _ _ => rfl⟩) (fun b e _ => e) fun b o _ e => e
  | none =>
    refine wpAny_genexprCodeX hcode (cd2.code hPs hok) (cd2.tab hPs) hf fun c' h' tk hx2 hge hlt hco' _ htab' _ => ?_
    obtain ⟨o1, vs1, g1, tf, fl, tg1, inF, tx, tt1, op, _, _, _, _, _, _, _, _, _, htr, _⟩ := hco'
    have I3 := inv_tab (more := #[rawInt pos.line, rawInt pos.col, .ref c']) (g' := s.gens) (d' := s.drawn) (t' := tk) I hP (fun b o hb e => hx2 b o hb e) htab'.2 I.bare
    exact k (.ref c') _ _ I3 (hq _ _ ⟨⟨_, upd_same, htr⟩, fun b hb => upd_ne hb⟩) (fun b e _ => by rw [upd_ne (nP b e)]; exact e) fun b o e eo => hx2 b o (nP b e) eo
/-- the running def's own code object, its table at P -/
theorem mkC_base {pos : Pos} {qual : Str} {scope : Scope} {c P : Addr} (TB : TabB X.base X.mg c P) (hcode : X.env.code = .ref c) : MkC X pos qual scope (fun H => TabG H P) (fun H H' _ => Tabbed P H H') :=
  mkC_of hcode fun I hp => ⟨c, P, rfl, TB.code.keeps I.bk, hp, fun _ _ t => t⟩
/-- a generator's own code object, known -/
theorem mkC_dyn {pos : Pos} {qual : Str} {scope : Scope} {cd : Value} (hcode : X.env.code = cd) : MkC X pos qual scope (fun H => ∃ c P, cd = .ref c ∧ H c = some (CodeG c P) ∧ TabG H P) (fun H H' _ => ∀ c P, cd = .ref c → H c = some (CodeG c P) → Tabbed P H H') :=
  mkC_of hcode fun I hp => by
    obtain ⟨c, P, e, h, t⟩ := hp
    refine ⟨c, P, e, codeG_hd I h, t, fun H' _ tb c2 P2 e2 h2 => ?_⟩
    rw [e] at e2
    cases e2
    rw [← codeHd_one (codeG_hd I h) (codeG_hd I h2)]
    exact tb
/-- the table's object is written, a code object and its table are new and known from now on; all else is kept -/
theorem inv_tabC {pins : List (Addr × Obj)} {σ : L2.St} {H : Hp} {s : Shared} {P c P' : Addr} {ps more : Array Value} {h' : Heap} {t' : Nat} (I : Inv X pins σ H s) (hP : H P = some (.tbl ps)) (k : ∀ b o, b ≠ P → s.heap.get? b = some o → h'.get? b = some o)
    (hm : h'.get? P = some { cls := .none, data := .fields (ps ++ more) }) (hc : s.heap.objs.size ≤ c) (hc2 : s.heap.objs.size ≤ P') (hd : PySem.W.CodeHd h' c P') (ht : h'.get? P' = some { cls := .none, data := .fields #[] }) :
    Inv X pins σ (upd (upd (upd H P (.tbl (ps ++ more))) c (CodeG c P')) P' (.tbl #[])) { s with heap := h', toks := t' } := by
  have ncp : c ≠ P' := by
    obtain ⟨_, _, _, _, _, _, _, _, _, _, _, _, _, _, _, _, _, _, z⟩ := hd
    exact z
  have nC : H c = none := I.hok.fresh hc
  have nC2 : H P' = none := I.hok.fresh hc2
  have nPc : P ≠ c := ne_of_none hP nC
  have nPc2 : P ≠ P' := ne_of_none hP nC2
  have at_ : ∀ b, b ≠ P → b ≠ c → b ≠ P' → upd (upd (upd H P (.tbl (ps ++ more))) c (CodeG c P')) P' (.tbl #[]) b = H b := fun b h1 h2 h3 => by rw [upd_ne h3, upd_ne h2, upd_ne h1]
  have atP : upd (upd (upd H P (.tbl (ps ++ more))) c (CodeG c P')) P' (.tbl #[]) P = some (.tbl (ps ++ more)) := by rw [upd_ne nPc2, upd_ne nPc, upd_same]
  have atC : upd (upd (upd H P (.tbl (ps ++ more))) c (CodeG c P')) P' (.tbl #[]) c = some (CodeG c P') := by rw [upd_ne ncp, upd_same]
  have nP : ∀ b u, H b = some u → (∀ q, u ≠ .tbl q) → b ≠ P := fun b u e q z => by
    rw [z, hP] at e
    exact q ps (Option.some.inj e).symm
  have nN : ∀ b, H b = none → b ≠ P := fun b e z => by
    rw [z, hP] at e
    cases e
  have lt' : ∀ b o, s.heap.get? b = some o → b ≠ c := fun b o e z => by
    rw [z] at e
    exact Nat.lt_irrefl _ (Nat.lt_of_lt_of_le (Heap.lt_size e) hc)
  have lt2 : ∀ b o, s.heap.get? b = some o → b ≠ P' := fun b o e z => by
    rw [z] at e
    exact Nat.lt_irrefl _ (Nat.lt_of_lt_of_le (Heap.lt_size e) hc2)
  have sm : ∀ b u, H b = some u → b ≠ c := fun b u e => ne_of_none e nC
  have sm2 : ∀ b u, H b = some u → b ≠ P' := fun b u e => ne_of_none e nC2
  refine I.step (g' := s.gens) (d' := s.drawn) (ch := []) (fun b hb => absurd hb (by simp)) (fun b o _ _ _ e n => k b o (nN b n) e) (fun b o _ _ _ e n => ⟨o.slots, k b o (nN b n) e⟩)
    (fun b o _ e n => by rw [at_ b (nN b n) (lt' b o e) (lt2 b o e)]; exact n) (fun b o _ e => ?_) (fun b xs e => by rw [at_ b (nP b _ e (fun q z => by cases z)) (sm b _ e) (sm2 b _ e)]; exact e) (fun b o u e => by rw [at_ b (nP b _ e (fun q z => by cases z)) (sm b _ e) (sm2 b _ e)]; exact e) (fun b qs e => ?_) (fun m hn => ?_) (fun b u e => ?_) I.bare
  · by_cases hb : b = P
    · rw [hb]
      exact ⟨_, hm⟩
    · exact ⟨o, k b o hb e⟩
  · by_cases hb : b = P
    · rw [hb, hP] at e
      cases e
      rw [hb, atP]
      exact ⟨more, rfl⟩
    · rw [at_ b hb (sm b _ e) (sm2 b _ e), e]
      exact ⟨#[], by simp⟩
  · obtain ⟨ob, es, ep, ho, r⟩ := hn
    exact ⟨ob, es, ep, k _ ob (nN _ I.free) ho, r⟩
  · by_cases hb0 : b = P'
    · rw [hb0, upd_same] at e
      cases e
      rw [hb0]
      exact ht
    · by_cases hb : b = c
      · rw [hb, atC] at e
        cases e
        rw [hb]
        obtain ⟨oc, vs, f1, t1, f2, t2, b3, x4, t4, e1, e2⟩ := id hd
        exact ⟨hd, ⟨oc, e1⟩, fun h1 h2 ⟨oc, vs, f1, t1, f2, t2, b3, x4, t4, e1, e2⟩ st => ⟨oc, vs, f1, t1, f2, t2, b3, x4, t4, st _ e1, e2⟩⟩
      · by_cases hb2 : b = P
        · rw [hb2, atP] at e
          cases e
          rw [hb2]
          exact hm
        · rw [at_ b hb2 hb hb0] at e
          refine (I.hok b u e).stay (fun d v hd q => k d v ?_ q) (fun d q => by rw [at_ d (nP d _ q (fun q z => by cases z)) (sm d _ q) (sm2 d _ q)]; exact q) fun d xs q => by rw [at_ d (nP d _ q (fun q z => by cases z)) (sm d _ q) (sm2 d _ q)]; exact q
          rcases hd with z | z
          · rw [z]
            exact hb2
          · exact nP d _ z (fun q z => by cases z)
/-- the running def's own code object, those of its table known -/
theorem mkC_tabN {pos : Pos} {qual : Str} {scope : Scope} {c P : Addr} {L : List Addr} (TB : TabB X.base X.mg c P) (hcode : X.env.code = .ref c) :
    MkC X pos qual scope (fun H => TabN H P L ∧ ∀ b ∈ L, ∃ o, H b = some o) (fun H H' cd => (TabN H' P L ∧ ∀ b o, H b = some o → b ≠ P → H' b = some o) ∧ ∃ c' P', cd = .ref c' ∧ H' c' = some (CodeG c' P') ∧ TabG H' P' ∧ P' ≠ P ∧ P' ∉ L) := by
  intro pins σ H s E Q I hp k
  obtain ⟨hp, hL⟩ := hp
  obtain ⟨ps, hP, hok, hk⟩ := id hp
  have cd2 : PySem.W.CodeHd s.heap c P := TB.code.keeps I.bk
  have hPs : s.heap.get? P = some { cls := .none, data := .fields ps } := I.hok P _ hP
  have nP : ∀ b, H b = none → b ≠ P := fun b e z => by
    rw [z, hP] at e
    cases e
  cases hf : codeAmong pos ps.toList with
  | some cv =>
    refine wpAny_genexprCode_hit hcode (cd2.code hPs hok) hf ?_
    obtain ⟨c', P', e1, e2, e3, e4, e5⟩ := hk pos cv hf
    exact k cv s H I ⟨⟨hp, fun b o e _ => e⟩, c', P', e1, e2, e3, e4, e5⟩ (fun b e _ => e) fun b o _ e => e
  | none =>
    refine wpAny_genexprCodeX hcode (cd2.code hPs hok) (cd2.tab hPs) hf fun c' h' tk hx2 hge hlt hco' _ htab' hnew => ?_
    obtain ⟨P', hge2, hcodeN, htabN⟩ := hnew
    obtain ⟨o1, vs1, g1, tf, fl, tg1, inF, tx, tt1, op, _, _, _, _, _, _, _, _, _, htr, _⟩ := hco'
    have hd := PySem.W.CodeHd.of hcodeN htabN
    have I3 := inv_tabC (more := #[rawInt pos.line, rawInt pos.col, .ref c']) (t' := tk) I hP (fun b o hb e => hx2 b o hb e) htab'.2 hge hge2 hd htabN.2
    have nC : H c' = none := I.hok.fresh hge
    have nC2 : H P' = none := I.hok.fresh hge2
    have nPc : P ≠ c' := ne_of_none hP nC
    have nPc2 : P ≠ P' := ne_of_none hP nC2
    have ncp : c' ≠ P' := by
      obtain ⟨_, _, _, _, _, _, _, _, _, _, _, _, _, _, _, _, _, _, z⟩ := hd
      exact z
    have nL : P' ∉ L := fun z => by
      obtain ⟨o, e⟩ := hL _ z
      rw [nC2] at e
      cases e
    have old : ∀ b o, H b = some o → b ≠ P → upd (upd (upd H P (.tbl (ps ++ #[rawInt pos.line, rawInt pos.col, .ref c']))) c' (CodeG c' P')) P' (.tbl #[]) b = some o := fun b o e n => by
      rw [upd_ne (ne_of_none e nC2), upd_ne (ne_of_none e nC), upd_ne n]
      exact e
    have eL : (ps ++ #[rawInt pos.line, rawInt pos.col, .ref c']).toList = ps.toList ++ [rawInt pos.line, rawInt pos.col, .ref c'] := by simp
    have tN : TabG (upd (upd (upd H P (.tbl (ps ++ #[rawInt pos.line, rawInt pos.col, .ref c']))) c' (CodeG c' P')) P' (.tbl #[])) P' := ⟨#[], upd_same, True.intro⟩
    have tC : upd (upd (upd H P (.tbl (ps ++ #[rawInt pos.line, rawInt pos.col, .ref c']))) c' (CodeG c' P')) P' (.tbl #[]) c' = some (CodeG c' P') := by rw [upd_ne ncp, upd_same]
    refine k (.ref c') _ _ I3 ⟨⟨⟨_, by rw [upd_ne nPc2, upd_ne nPc, upd_same], htr, fun p2 cv hcv => ?_⟩, old⟩, c', P', rfl, tC, tN, nPc2.symm, nL⟩ (fun b e hb => ?_) fun b o e eo => hx2 b o (nP b e) eo
    · rw [eL] at hcv
      rcases LamX.among_app _ hok hcv with z | z
      · obtain ⟨c0, P0, e1, e2, ⟨qs, e3, e4⟩, e5, e6⟩ := hk p2 cv z
        exact ⟨c0, P0, e1, old _ _ e2 (fun q => by rw [q, hP] at e2; exact codeG_ne ps (Option.some.inj e2).symm), ⟨qs, old _ _ e3 e5, e4⟩, e5, e6⟩
      · exact ⟨c', P', z, tC, tN, nPc2.symm, nL⟩
    · rw [upd_ne (Nat.ne_of_lt (Nat.lt_of_lt_of_le hb hge2)), upd_ne (Nat.ne_of_lt (Nat.lt_of_lt_of_le hb hge)), upd_ne (nP b e)]
      exact e
/-- another table grows: the table is what it was -/
theorem TabN.other {H H' : Hp} {P P' : Addr} {L : List Addr} (t : TabN H P L) (ne : P' ≠ P) (tb : Tabbed P' H H') (g : TabG H P') : TabN H' P L := by
  obtain ⟨ps, h1, h2, h3⟩ := t
  have nP : ∀ b u, H b = some u → (∀ q, u ≠ .tbl q) → b ≠ P' := fun b u e q z => by
    obtain ⟨qs, eq, _⟩ := g
    rw [z, eq] at e
    exact q qs (Option.some.inj e).symm
  refine ⟨ps, by rw [tb.2 _ ne.symm]; exact h1, h2, fun pos cv hc => ?_⟩
  obtain ⟨c0, P0, e1, e2, e3, e4⟩ := h3 pos cv hc
  refine ⟨c0, P0, e1, by rw [tb.2 _ (nP _ _ e2 codeG_ne)]; exact e2, ?_, e4⟩
  by_cases z : P0 = P'
  · rw [z]; exact tb.1
  · obtain ⟨qs, a, b⟩ := e3
    exact ⟨qs, by rw [tb.2 _ z]; exact a, b⟩
theorem TabN.ext {H H' : Hp} {P : Addr} {L : List Addr} (t : TabN H P L) (e : ∀ b o, H b = some o → H' b = some o) : TabN H' P L := by
  obtain ⟨ps, h1, h2, h3⟩ := t
  refine ⟨ps, e _ _ h1, h2, fun pos cv hc => ?_⟩
  obtain ⟨c0, P0, e1, e2, ⟨qs, a, b⟩, e4⟩ := h3 pos cv hc
  exact ⟨c0, P0, e1, e _ _ e2, ⟨qs, e _ _ a, b⟩, e4⟩
end
end Gx
end Text_Gd
section Text_Gn
set_option Elab.async false
set_option linter.all false
set_option maxRecDepth 100000
set_option maxHeartbeats 4000000
/-! Gn: a generator expression's frame whose own names may be cells. -/
namespace Gx
open PySem PySem.Spec PyProof.Rows L2 GxR
theorem cellsFrom_mem : ∀ {names : List (Str × NameKind)} {n : Nat} {acc : List (Str × Addr)} {y : Str} {c : Addr}, (y, c) ∈ cellsFrom n names acc → (y, c) ∈ acc ∨ ((y, NameKind.cell) ∈ names ∧ n ≤ c)
  | [], _, _, _, _, h => .inl h
  | (m, k) :: r, n, acc, y, c, h => by
    unfold cellsFrom at h
    split at h
    · rename_i hk
      have hk : k = .cell := by simpa using hk
      rcases cellsFrom_mem h with h | ⟨h1, h2⟩
      · rcases List.mem_cons.mp h with e | h
        · cases e
          rw [hk]
          exact .inr ⟨List.mem_cons_self, Nat.le_refl _⟩
        · exact .inl h
      · exact .inr ⟨List.mem_cons_of_mem _ h1, Nat.le_of_succ_le h2⟩
    · rcases cellsFrom_mem h with h | ⟨h1, h2⟩
      · exact .inl h
      · exact .inr ⟨List.mem_cons_of_mem _ h1, h2⟩
theorem cellsFrom_acc : ∀ {names : List (Str × NameKind)} {n : Nat} {acc : List (Str × Addr)} {p : Str × Addr}, p ∈ acc → p ∈ cellsFrom n names acc
  | [], _, _, _, h => h
  | (m, k) :: r, n, acc, p, h => by
    unfold cellsFrom
    split
    · exact cellsFrom_acc (List.mem_cons_of_mem _ h)
    · exact cellsFrom_acc h
theorem cellsFrom_own : ∀ {names : List (Str × NameKind)} {n : Nat} {acc : List (Str × Addr)} {y : Str}, (y, NameKind.cell) ∈ names → ∃ c, (y, c) ∈ cellsFrom n names acc
  | (m, k) :: r, n, acc, y, h => by
    unfold cellsFrom
    rcases List.mem_cons.mp h with e | h
    · cases e
      split
      · exact ⟨n, cellsFrom_acc List.mem_cons_self⟩
      · rename_i hk
        exact absurd rfl hk
    · split
      · exact cellsFrom_own h
      · exact cellsFrom_own h
theorem pushCells_size : ∀ (names : List (Str × NameKind)) (h : Heap), h.objs.size ≤ (pushCells h names).objs.size
  | [], _ => Nat.le_refl _
  | (_, kind) :: r, h => by
    unfold pushCells
    split
    · refine Nat.le_trans ?_ (pushCells_size r _)
      rw [Heap.size_push]
      exact Nat.le_succ _
    · exact pushCells_size r h
/-- the new cells stand, empty -/
theorem cells_new : ∀ (names : List (Str × NameKind)) (h : Heap) (acc : List (Str × Addr)) (y : Str) (c : Addr), (y, c) ∈ cellsFrom h.objs.size names acc → (y, c) ∈ acc ∨ (pushCells h names).IsCell c none ∧ h.objs.size ≤ c
  | [], _, _, _, _, m => .inl m
  | (name, kind) :: r, h, acc, y, c, m => by
    unfold pushCells
    unfold cellsFrom at m
    split at m
    · rename_i hk
      rw [if_pos hk]
      have ih := cells_new r (h.push { cls := .type "cell", data := .cell none }) ((name, h.objs.size) :: acc) y c
      rw [Heap.size_push] at ih
      rcases ih m with z | ⟨z1, z2⟩
      · rcases List.mem_cons.mp z with e | z
        · cases e
          obtain ⟨o, e, d⟩ : (h.push { cls := .type "cell", data := .cell none }).IsCell h.objs.size none := ⟨_, Heap.get?_push_size _ rfl, rfl⟩
          exact .inr ⟨⟨o, pushCells_keeps _ _ _ _ e, d⟩, Nat.le_refl _⟩
        · exact .inl z
      · exact .inr ⟨z1, Nat.le_of_succ_le z2⟩
    · rename_i hk
      rw [if_neg hk]
      exact cells_new r h acc y c m
/-- each at a place of its own -/
theorem cells_inj (lo : Nat) : ∀ (names : List (Str × NameKind)) (n : Nat) (acc : List (Str × Addr)), (∀ p ∈ acc, p.2 < n) → (∀ y z c, (y, c) ∈ acc → (z, c) ∈ acc → lo ≤ c → y = z) → ∀ y z c, (y, c) ∈ cellsFrom n names acc → (z, c) ∈ cellsFrom n names acc → lo ≤ c → y = z
  | [], _, _, _, h => h
  | (name, kind) :: r, n, acc, hl, h => by
    unfold cellsFrom
    split
    · refine cells_inj lo r (n + 1) ((name, n) :: acc) (fun p hp => ?_) fun y z c h1 h2 hc => ?_
      · rcases List.mem_cons.mp hp with e | hp
        · rw [e]; exact Nat.lt_succ_self _
        · exact Nat.lt_succ_of_lt (hl p hp)
      · rcases List.mem_cons.mp h1 with e1 | h1 <;> rcases List.mem_cons.mp h2 with e2 | h2
        · rw [(Prod.mk.inj e1).1, (Prod.mk.inj e2).1]
        · have e := (Prod.mk.inj e1).2
          exact absurd (hl _ h2) (by rw [e]; exact Nat.lt_irrefl _)
        · have e := (Prod.mk.inj e2).2
          exact absurd (hl _ h1) (by rw [e]; exact Nat.lt_irrefl _)
        · exact h y z c h1 h2 hc
    · exact cells_inj lo r n acc hl h

/-- the names of a generator expression: own ones with their places (cells too), or captured -/
structure GOkC (N : List Str) (sc scope : Scope) (own : List (Str × Nat)) : Prop where
  kind : scope.kind = .function
  co : scope.isCoroutine = false
  uniq : ∀ y ∈ scope.names, scope.names.lookup y.1 = some y.2
  dot : scope.names.lookup (".0" : Str) = some NameKind.local
  ix : ∀ p ∈ own, N[p.2]? = some p.1
  free : ∀ y ∈ scope.names, y.2 = .free → sc.names.lookup y.1 = some .cell ∨ sc.names.lookup y.1 = some .free
  own : ∀ y ∈ scope.names, y.2 = .local ∨ y.2 = .cell → y.1 ∈ own.map (·.1) ∨ y.1 ∉ N
def gOkCB (N : List Str) (sc scope : Scope) (own : List (Str × Nat)) : Bool :=
  decide (scope.kind = .function) && !scope.isCoroutine && (scope.names.all fun y => decide (scope.names.lookup y.1 = some y.2)) &&
  decide (scope.names.lookup (".0" : Str) = some NameKind.local) && (own.all fun p => decide (N[p.2]? = some p.1)) &&
  (scope.names.all fun y => !decide (y.2 = .free) || decide (sc.names.lookup y.1 = some .cell) || decide (sc.names.lookup y.1 = some .free)) &&
  (scope.names.all fun y => (!decide (y.2 = .local) && !decide (y.2 = .cell)) || decide (y.1 ∈ own.map (·.1)) || !decide (y.1 ∈ N))
theorem gOkC_by {N : List Str} {sc scope : Scope} {own : List (Str × Nat)} (h : gOkCB N sc scope own = true) : GOkC N sc scope own := by
  unfold gOkCB at h
  simp only [Bool.and_eq_true, Bool.or_eq_true, Bool.not_eq_true', decide_eq_true_eq, decide_eq_false_iff_not, List.all_eq_true] at h
  obtain ⟨⟨⟨⟨⟨⟨h1, h2⟩, h3⟩, h5⟩, h6⟩, h7⟩, h8⟩ := h
  refine ⟨h1, h2, h3, h5, h6, fun y hy e => ?_, fun y hy e => ?_⟩
  · rcases h7 y hy with (z | z) | z
    · exact absurd e z
    · exact .inl z
    · exact .inr z
  · rcases h8 y hy with (z | z) | z
    · rcases e with e | e
      · exact absurd e z.1
      · exact absurd e z.2
    · exact .inl z
    · exact .inr z
/-- a generator expression's frame at C -/
abbrev genv (X : Cx) (scope : Scope) (C : Addr) (cd : Value) : Env := genEnv scope (cellsFrom (C + 1) scope.names (cloFrom X.env.cells scope.names [])) C cd builtinsNs X.env
/-- its context: names of its own that are cells may be stored -/
abbrev gCy (X : Cx) (s : Shared) (H : Hp) (A : Around) (scope : Scope) (env : Env) (fp : List Addr) (pn : List (Addr × Obj)) : Cx := { gCx X s H A env fp pn with fn := fun x => scope.names.lookup x == some .cell }
section
variable {M : Model} {A : Around} {E : Value → Shared → Prop} {s : Shared}
theorem genexp_makeC {env : Env} {elt target iter : Expr} {ifs : List Expr} {scope : Scope} {cl : List (Str × Addr)} {pos : Pos} {Q : Value → Shared → Prop}
    (hco : scope.isCoroutine = false) (hclos : closureFor scope env = pure cl) (h0 : scope.names.lookup (".0" : Str) = some NameKind.local) (hkind : scope.kind = .function)
    (hroom : A.depth < recursionLimit)
    (h : wpAny M A (eval iter env) (fun xv s₁ => wpAny M A (pyIter xv) (fun it s₂ => s₂.heap.NoLimit ∧
      wpAny M A (genexprCode env pos (env.qual ++ "<genexpr>") scope) (fun code s₃ => wpAny M A (builtinsFor env.globals env.builtins) (fun bi s₄ =>
        ∀ h', h'.Ns s₄.heap.objs.size (fun y => if y = ".0" then some it else none) → Heap.SameBut s₄.heap.objs.size (pushCells (s₄.heap.push { cls := .type "frame", data := .dict #[] }) scope.names) h' →
          Q (.ref h'.objs.size) { s₄ with
            gens := s₄.gens.push (.fresh (.compStart (.GeneratorExp elt [⟨target, iter, ifs, 0⟩] scope pos) 0 it .none (genEnv scope (cellsFrom (s₄.heap.objs.size + 1) scope.names cl) s₄.heap.objs.size code bi env))),
            toks := s₄.toks + 1 + 1 + 1,
            heap := h'.push { cls := .type "generator", data := .fields #[.int s₄.gens.size 0, .str "<genexpr>" (s₄.toks + 1), .str (env.qual ++ "<genexpr>") (s₄.toks + 1 + 1)] } }) E s₃) E s₂) E s₁) E s)
    (hs : ∀ x, genFold iter env x = pure x) :
    wpAny M A (eval (.GeneratorExp elt [⟨target, iter, ifs, 0⟩] scope pos) env) Q E s := by
  rw [eval_GeneratorExp1 _ _ _ _ _ _ _ hco, hclos]
  refine wpAny_bind (wpAny_mono h (fun xv s₁ h₁ => ?_) fun _ _ e => e)
  refine wpAny_bind (wpAny_standAt ?_)
  refine wpAny_bind (wpAny_of_eq (hs xv) ?_)
  refine wpAny_bind (wpAny_holding (wpAny_mono h₁ (fun it s₂ h₂ => ?_) fun _ _ e => e))
  refine wpAny_bind (wpAny_enterFrame h₂.1 hroom ?_)
  refine wpAny_bind (wpAny_pure ?_)
  refine wpAny_bind (wpAny_mono h₂.2 (fun code s₃ h₃ => ?_) fun _ _ e => e)
  refine wpAny_bind (wpAny_mono h₃ (fun bi s₄ h₄ => ?_) fun _ _ e => e)
  simp only [newFunctionEnv, Option.isSome_none, Bool.false_eq_true, if_false]
  refine wpAny_bind (wpAny_bind (wpAny_alloc ?_))
  refine wpAny_bind (wpAny_layCells _ (fun name kind cells => by cases hkc : kind == NameKind.cell <;> simp [hkc]) _ _ _ _ ?_)
  rw [show ({ s₄ with heap := s₄.heap.push { cls := .type "frame", data := .dict #[] } } : Shared).heap.objs.size = s₄.heap.objs.size + 1 from Heap.size_push ..]
  rw [List.forIn_cons]
  have hns : (pushCells (s₄.heap.push { cls := .type "frame", data := .dict #[] }) scope.names).Ns s₄.heap.objs.size fun _ => none := (Heap.Ns.new s₄.heap (.type "frame")).keeps (pushCells_keeps _ _)
  refine wpAny_bind (wpAny_bind (wpAny_bind (wpAny_storeName_local h0 hns (fun h' hn' hs' => wpAny_pure ?_) (by show (scope.kind == .class || _) = false; rw [hkind]; rfl))))
  show wpAny M A (forIn [] _ _) _ _ _
  rw [List.forIn_nil]
  refine wpAny_pure (wpAny_pure ?_)
  simp only [newGenerator, newFields]
  refine wpAny_bind (wpAny_newGen (wpAny_bind (wpAny_mkText (wpAny_bind (wpAny_mkText (wpAny_newObj_type ?_ (by size_fits)))))))
  exact h₄ h' hn' hs'
end
section
variable {X : Cx} {pins : List (Addr × Obj)} {σ : L2.St} {H : Hp} {s : Shared}
theorem g_startC {scope : Scope} {own : List (Str × Nat)} {fp : List Addr} {A : Around} {code : Value} {it : Value} {ga : Addr} {gobj : Obj} {h5 : Heap} {g5 : Array GenState} {d5 : Drawn} {t5 : Nat}
    (I : Inv X pins σ H s) (ok : GOkC X.N X.env.scope scope own) (hN : X.N.Nodup) (hd : A.handled = none)
    (hA : A.frames = some (genv X scope s.heap.objs.size code :: X.stack))
    (hfp : ∀ b ∈ fp, FpOk X pins H b ∧ b < s.heap.objs.size)
    (keep : ∀ b o, s.heap.get? b = some o → h5.get? b = some o)
    (hns : h5.Ns s.heap.objs.size (fun y => if y = ".0" then some it else none))
    (hnew : ∀ y c, (y, c) ∈ cellsFrom (s.heap.objs.size + 1) scope.names (cloFrom X.env.cells scope.names []) → (y, c) ∈ cloFrom X.env.cells scope.names [] ∨ h5.IsCell c none ∧ s.heap.objs.size + 1 ≤ c)
    (hga : s.heap.objs.size < ga) (hgo : h5.get? ga = some gobj) (hgc : ∀ v, gobj.data ≠ .cell v) (hb : AllBare g5) :
    Inv (gCy X s H A scope (genv X scope s.heap.objs.size code) fp [(ga, gobj)]) [] (wipe σ (own.map (·.2))) H
      { s with heap := h5, gens := g5, drawn := d5, toks := t5 } := by
  have hfree : ∀ y ∈ scope.names, y.2 = .free → ∃ c, X.env.cells.lookup y.1 = some c := fun y hy e => by
    rcases ok.free y hy e with k | k
    · exact I.ok.has _ (.inl k)
    · exact I.ok.has _ (.inr k)
  -- a captured cell
  have cm0 : ∀ {y c}, (y, c) ∈ cloFrom X.env.cells scope.names [] → X.env.cells.lookup y = some c := fun {y c} e => by
    rcases cloFrom_mem e with hm | ⟨h1, h2⟩
    · cases hm
    · obtain ⟨c1, hc⟩ := hfree _ h1 rfl
      have hc : X.env.cells.lookup y = some c1 := hc
      rw [hc] at h2
      rw [hc]
      exact congrArg some h2.symm
  have clt : ∀ {y c}, X.env.cells.lookup y = some c → c < s.heap.objs.size := fun {y c} e => by
    obtain ⟨v, z⟩ := I.cell y c e
    exact z.lt
  have lt0 : ∀ p ∈ cloFrom X.env.cells scope.names [], p.2 < s.heap.objs.size + 1 := fun p hp => Nat.lt_succ_of_lt (clt (cm0 (y := p.1) (c := p.2) hp))
  -- one of ours, or captured
  have cm : ∀ {y c}, (cellsFrom (s.heap.objs.size + 1) scope.names (cloFrom X.env.cells scope.names [])).lookup y = some c → X.env.cells.lookup y = some c ∨ (y, NameKind.cell) ∈ scope.names ∧ s.heap.objs.size + 1 ≤ c := fun {y c} e => by
    rcases cellsFrom_mem (PySem.mem_of_lookup e) with z | z
    · exact .inl (cm0 z)
    · exact .inr z
  have cn : ∀ {y c}, (cellsFrom (s.heap.objs.size + 1) scope.names (cloFrom X.env.cells scope.names [])).lookup y = some c → (X.env.cells.lookup y = some c) ∨ (h5.IsCell c none ∧ s.heap.objs.size + 1 ≤ c) := fun {y c} e => by
    rcases hnew y c (PySem.mem_of_lookup e) with z | z
    · exact .inl (cm0 z)
    · exact .inr z
  have has : ∀ y, (y, NameKind.cell) ∈ scope.names ∨ (y, NameKind.free) ∈ scope.names → ∃ c, (cellsFrom (s.heap.objs.size + 1) scope.names (cloFrom X.env.cells scope.names [])).lookup y = some c := fun y h => by
    rcases h with h | h
    · obtain ⟨c, hc⟩ := cellsFrom_own (n := s.heap.objs.size + 1) (acc := cloFrom X.env.cells scope.names []) h
      exact mem_lookup hc
    · exact mem_lookup (cellsFrom_acc (cloFrom_has (cells := X.env.cells) (acc := []) h))
  have okG : (gCy X s H A scope (genv X scope s.heap.objs.size code) fp [(ga, gobj)]).Ok := by
    refine ⟨I.ok.mod, ok.kind, I.ok.glob, rfl, Nat.le_refl _, fun y z c e1 e2 => ?_, fun y hy => ?_, fun y c z e => ?_, fun _ => hd, hA, .inr ⟨rfl, rfl⟩,
      fun b hb => ⟨Nat.ne_of_lt (hfp b hb).2, fun y c e z => ?_⟩, I.bs, Nat.le_trans I.ok.bsz I.sz, fun b o e hb => ?_, fun b hb z => ?_, I.stack, I.stkFree⟩
    · have q1 := cm e1
      have q2 := cm e2
      rcases q1 with q1 | ⟨_, q1⟩ <;> rcases q2 with q2 | ⟨_, q2⟩
      · exact I.ok.inj y z c q1 q2
      · exact absurd (clt q1) (Nat.not_lt.mpr (Nat.le_of_succ_le q2))
      · exact absurd (clt q2) (Nat.not_lt.mpr (Nat.le_of_succ_le q1))
      · exact cells_inj (s.heap.objs.size + 1) scope.names (s.heap.objs.size + 1) _ lt0 (fun y z c h1 h2 hc => absurd (lt0 _ h1) (Nat.not_lt.mpr hc)) y z c (PySem.mem_of_lookup e1) (PySem.mem_of_lookup e2) q1
    · have hy : scope.names.lookup y = some .cell ∨ scope.names.lookup y = some .free := hy
      exact has y (hy.imp PySem.mem_of_lookup PySem.mem_of_lookup)
    · have z : (scope.names.lookup y == some NameKind.cell) = true := z
      have z : scope.names.lookup y = some .cell := by simpa using z
      rcases cellsFrom_mem (PySem.mem_of_lookup e) with q | ⟨_, q⟩
      · rcases cloFrom_mem q with q | ⟨q, _⟩
        · cases q
        · have q := ok.uniq _ q
          rw [z] at q
          cases q
      · exact Nat.le_of_succ_le q
    · rcases cm e with q | ⟨_, q⟩
      · exact (hfp b hb).1.2.2.2.2.1 y c q z
      · have := (hfp b hb).2
        rw [← z] at this
        exact absurd this (Nat.not_lt.mpr (Nat.le_of_succ_le q))
    · rcases (hfp b hb).1.2.2.2.1 with z | z
      · exact I.ok.noex b o e z
      · exact absurd (Nat.lt_of_lt_of_le (Heap.lt_size e) (Nat.le_trans I.ok.bsz z)) (Nat.lt_irrefl _)
    · rcases List.mem_cons.mp (I.stkSub b z) with z | z
      · exact (hfp b hb).1.2.1 z
      · exact (hfp b hb).1.2.2.1 z
  refine ⟨okG, rfl, hb, Un.kept keep, ⟨_, hns, fun i y av e1 e2 e3 => ?_⟩, fun y c e => ?_, I.hok.fresh (Nat.le_refl _), fun y c e => ?_, fun p hp => ?_, I.hok.kept keep, by rw [wipe_length]; exact I.len⟩
  · obtain ⟨e2, hne⟩ := wipe_some e2
    have e3 : Vis scope y := e3
    have notOwn : ¬ (scope.names.lookup y = some .local ∨ scope.names.lookup y = some .cell) := fun k => by
      have ko : y ∈ own.map (·.1) ∨ y ∉ X.N := by
        rcases k with k | k
        · exact ok.own _ (PySem.mem_of_lookup k) (.inl rfl)
        · exact ok.own _ (PySem.mem_of_lookup k) (.inr rfl)
      rcases ko with e' | e'
      · obtain ⟨p, hp, hpy⟩ := List.mem_map.mp e'
        have e4 := ok.ix p hp
        have e5 : p.1 = y := hpy
        rw [e5] at e4
        exact hne (List.mem_map.mpr ⟨p, hp, nodup_ix hN e4 e1⟩)
      · exact e' (List.mem_of_getElem? e1)
    have fr : scope.names.lookup y = some .free := by
      rcases e3 with k | k | k
      · exact absurd (.inl k) notOwn
      · exact absurd (.inr k) notOwn
      · exact k
    obtain ⟨m, hn, hl⟩ := I.loc
    have vis : Vis X.env.scope y := (ok.free _ (PySem.mem_of_lookup fr) rfl).elim (fun k => .inr (.inl k)) (fun k => .inr (.inr k))
    obtain ⟨w, r, q⟩ := hl i y av e1 e2 vis
    obtain ⟨c, hc⟩ := has y (.inr (PySem.mem_of_lookup fr))
    refine ⟨w, r, .inr ⟨.inr fr, c, hc, ?_⟩⟩
    have hc' : X.env.cells.lookup y = some c := by
      rcases cm hc with z | ⟨z, _⟩
      · exact z
      · have u := ok.uniq _ z
        rw [show scope.names.lookup y = some NameKind.cell from u] at fr
        cases fr
    rcases q with ⟨k, _⟩ | ⟨_, c', e', z⟩
    · have k : X.env.scope.names.lookup y = some .local := k
      rcases ok.free _ (PySem.mem_of_lookup fr) rfl with k' | k' <;> rw [show X.env.scope.names.lookup y = _ from k'] at k <;> cases k
    · rw [hc'] at e'
      cases e'
      exact z.keeps keep
  · rcases cn e with q | ⟨q, _⟩
    · obtain ⟨v, z⟩ := I.cell y c q
      exact ⟨v, z.keeps keep⟩
    · exact ⟨none, q⟩
  · rcases cn e with q | ⟨_, q⟩
    · exact I.freeC y c q
    · exact I.hok.fresh (Nat.le_of_succ_le q)
  · have hp' : p ∈ [(ga, gobj)] := by simpa using hp
    rw [List.mem_singleton.mp hp']
    refine ⟨hgo, I.hok.fresh (Nat.le_of_lt hga), Nat.ne_of_gt hga, fun z => ?_, hgc⟩
    obtain ⟨_, o, ho, _⟩ := I.stack.mem z
    have h2 := I.stkFree
    rcases List.mem_cons.mp (I.stkSub ga z) with z | z
    · have := I.lt
      rw [← z] at this
      exact absurd (Nat.lt_trans hga this) (Nat.lt_irrefl _)
    · exact I.nofs (Nat.le_of_lt hga) z
end
end Gx
end Text_Gn
section Text_Ge
set_option Elab.async false
set_option linter.all false
set_option maxRecDepth 100000
set_option maxHeartbeats 4000000
namespace Gx
open PySem PySem.Spec PyProof.Rows L2 GxR
abbrev gC (X : Cx) (B : Around) (scope : Scope) (s : Shared) (H : Hp) (C : Addr) (cd : Value) (fp : List Addr) (pn : List (Addr × Obj)) : Cx := gCy X s H B scope (genv X scope C cd) fp pn
/-- the parts of a generator expression in its own frame: target, tests, element -/
structure Parts (X : Cx) (k : Nat) (scope : Scope) (tg : Expr) (ifs : List Expr) (elt : Expr) (g : TG) (tt : TT) (te : Value → TE) : Prop where
  g : ∀ (B : Around) (s : Shared) (H : Hp) (C : Addr) (cd : Value) (fp : List Addr) (pn : List (Addr × Obj)), Room k B → PG (gC X B scope s H C cd fp pn) tg g
  t : ∀ (B : Around) (s : Shared) (H : Hp) (C : Addr) (cd : Value) (fp : List Addr) (pn : List (Addr × Obj)), Room k B → PTs (gC X B scope s H C cd fp pn) ifs tt
  e : ∀ (B : Around) (s : Shared) (H : Hp) (C : Addr) (cd : Value) (fp : List Addr) (pn : List (Addr × Obj)), Room k B → PE (gC X B scope s H C cd fp pn) elt (te cd)
/-- a place further in, as a generator is woken from there -/
structure Inn (k : Nat) (A B : Around) : Prop where
  fr : B.frames = A.frames
  hd : B.handled = none
  room : ∀ env, Room k (B.deeper env)
  dep : B.depth < recursionLimit

section
variable {X : Cx} {pins : List (Addr × Obj)} {σ : L2.St} {H : Hp} {s : Shared}
theorem gen_madeC {elt tg iter : Expr} {ifs : List Expr} {scope : Scope} {own : List (Str × Nat)} {pos : Pos} {wi : TI} {g : TG} {tt : TT} {te : Value → TE} {k : Nat} {B : Around} {Pre : Hp → Prop} {Post : Hp → Hp → Value → Prop} {Rd : It → Value → Hp → Prop} {Q' : Value → Shared → Prop}
    (hd : X.A.depth < recursionLimit) (hB : Inn k X.A B) (bm : ∃ P, X.base.BuiltinsAt X.mg P) (mk : MkC X pos (X.env.qual ++ "<genexpr>") scope Pre Post) (hN : X.N.Nodup) (ok : GOkC X.N X.env.scope scope own) (hi : PI X tg iter wi)
    (pp : Parts X k scope tg ifs elt g tt te) (hs : ∀ v, genFold iter X.env v = pure v) (I : Inv X pins σ H s) (h : wi σ H fun J H1 => Pre H1 ∧ ∀ H2 cd, Post H1 H2 cd → Rd J cd H2)
    (hQ : ∀ (Z : Cx) (ga : Addr) (gn : Nat) (cd : Value) (code : Code) (J : It) (H4 : Hp) (s5 : Shared), Z.prog = X.prog → Z.w = X.w → Z.K = X.K → s5.heap.IsGen ga gn → s5.gens[gn]? = some (.fresh code) → ga < s5.heap.objs.size →
      Inv Z [] (wipe σ (own.map (·.2))) H4 s5 → (∀ {ps σ' H'} {s' : Shared}, Inv Z ps σ' H' s' → s'.heap.IsGen ga gn) → (∀ {ps σ' H'} {s' : Shared}, Inv Z ps σ' H' s' → Inv X pins σ H' s') → Rd J cd H4 →
      (∀ {C : Hp → Con} {F : Lef} {r : Shared → Hp → Prop} {Qe : Hp → Prop} {W : Nat → Nat → Hp → Prop} (m n : Nat), Keeps r C F → TurnK J g tt (te cd) (own.map (·.2)) (wipe σ (own.map (·.2))) C F Qe W → m + 1 ≤ n → ∀ s6 H6, Inv Z [] (wipe σ (own.map (·.2))) H6 s6 → W 0 m H6 →
        (∀ b o, s5.heap.get? b = some o → H4 b = none → s6.heap.get? b = some o) → (∀ b, b < s5.heap.objs.size → H4 b = none → H6 b = none) → r s6 H6 → (GenState.fresh code).Goes (model Z.prog Z.w) B (RK Z Qe r) (YK Z C r) n (.send .none) s6) → Q' (.ref ga) s5) :
    wpAny (model X.prog X.w) X.A (eval (.GeneratorExp elt [⟨tg, iter, ifs, 0⟩] scope pos) X.env) Q' X.xe s := by
  have hfree : ∀ y ∈ scope.names, y.2 = .free → ∃ c, X.env.cells.lookup y.1 = some c := fun y hy e => by
    rcases ok.free y hy e with q | q
    · exact I.ok.has _ (.inl q)
    · exact I.ok.has _ (.inr q)
  refine genexp_makeC ok.co (closure_ok hfree) ok.dot ok.kind hd ?_ hs
  refine thn (hi.run pins s σ H _ I h) fun xv s1 hx => thn hx fun itv s2 h2 => ?_
  obtain ⟨it, fp, tn, J, H2, e, I2, T, st2, f2, hpre, hq⟩ := h2
  subst e
  refine ⟨I2.nolimit, ?_⟩
  refine mk pins σ H2 s2 _ _ I2 hpre fun cd s4 H4 I4 post fr kp => ?_
  have hlt2 : ∀ b ∈ fp, b < s2.heap.objs.size := fun b hb => by
    obtain ⟨o, e, _⟩ := T.obj _ _ st2 b hb
    exact Heap.lt_size e
  have st4 : tn 0 s4.heap := T.keep _ _ _ st2 fun b hb o e => kp b o (f2 b hb).1 e
  have f4 : ∀ b ∈ fp, FpOk X pins H4 b := fun b hb => by
    obtain ⟨z0, z1, z2, z3, z4, z5⟩ := f2 b hb
    exact ⟨fr b z0 (hlt2 b hb), z1, z2, z3, z4, z5⟩
  obtain ⟨P0, bm, ob, e1, e2, e3, e4, e5, e6, e7, e8⟩ := bm
  refine wpAny_builtinsFor (m := X.mg) (by rw [I4.ok.glob]; exact I4.mod.glob.keeps I4.bk) e1 e2 (I4.bk _ _ e5) e6 e7 e8 ?_
  intro h' hn' hs'
  generalize hgobj : ({ cls := .type "generator", data := .fields #[.int s4.gens.size 0, .str "<genexpr>" (s4.toks + 1), .str (X.env.qual ++ "<genexpr>") (s4.toks + 1 + 1)] } : Obj) = gobj
  have hsz : s4.heap.objs.size + 1 ≤ h'.objs.size := by
    rw [hs'.1]
    have := pushCells_size scope.names (s4.heap.push { cls := .type "frame", data := .dict #[] })
    rw [Heap.size_push] at this
    exact this
  have k5 : ∀ b o, s4.heap.get? b = some o → (h'.push gobj).get? b = some o := fun b o e =>
    Heap.get?_push_of_some _ (hs'.extBut b o (Nat.ne_of_lt (Heap.lt_size e)) (pushCells_keeps _ _ _ _ (Heap.get?_push_of_some _ e)))
  have hnew : ∀ y c, (y, c) ∈ cellsFrom (s4.heap.objs.size + 1) scope.names (cloFrom X.env.cells scope.names []) → (y, c) ∈ cloFrom X.env.cells scope.names [] ∨ (h'.push gobj).IsCell c none ∧ s4.heap.objs.size + 1 ≤ c := fun y c m => by
    have q := cells_new scope.names (s4.heap.push { cls := .type "frame", data := .dict #[] }) (cloFrom X.env.cells scope.names []) y c
    rw [Heap.size_push] at q
    rcases q m with z | ⟨⟨o, z1, z2⟩, z3⟩
    · exact .inl z
    · exact .inr ⟨⟨o, Heap.get?_push_of_some _ (hs'.extBut c o (Nat.ne_of_gt z3) z1), z2⟩, z3⟩
  have hfp4 : ∀ b ∈ fp, FpOk X pins H4 b ∧ b < s4.heap.objs.size := fun b hb => by
    obtain ⟨o, e, _⟩ := T.obj _ _ st4 b hb
    exact ⟨f4 b hb, Heap.lt_size e⟩
  have hgo : (h'.push gobj).get? h'.objs.size = some gobj := Heap.get?_push_size _ (by rw [← hgobj]; rfl)
  have hgc : ∀ v, gobj.data ≠ .cell v := fun v z => by
    rw [← hgobj] at z
    cases z
  have hb5 : AllBare (s4.gens.push (.fresh (.compStart (.GeneratorExp elt [⟨tg, iter, ifs, 0⟩] scope pos) 0 (.ref it) .none (genv X scope s4.heap.objs.size cd)))) := I4.bare.push rfl
  have hga : s4.heap.objs.size < h'.objs.size := by omega
  have J0 := g_startC (A := B.deeper (genv X scope s4.heap.objs.size cd)) (d5 := s4.drawn) (t5 := s4.toks + 1 + 1 + 1) I4 ok hN hB.hd
    (Around.frames_deeper (by rw [hB.fr]; exact I4.ok.frames)) hfp4 k5 (hn'.push _) hnew hga hgo hgc hb5
  have isg : ∀ {ps σ' H'} {s' : Shared}, Inv (gC X (B.deeper (genv X scope s4.heap.objs.size cd)) scope s4 H4 s4.heap.objs.size cd fp [(h'.objs.size, gobj)]) ps σ' H' s' → s'.heap.IsGen h'.objs.size s4.gens.size := fun {ps σ' H' s'} J => by
    have e := (J.pin (h'.objs.size, gobj) (List.mem_append_left _ List.mem_cons_self)).1
    exact ⟨gobj, _, _, e, by rw [← hgobj], by rw [← hgobj], by rw [← hgobj]⟩
  have hroom := hB.room (genv X scope s4.heap.objs.size cd)
  refine hQ (gC X (B.deeper (genv X scope s4.heap.objs.size cd)) scope s4 H4 s4.heap.objs.size cd fp [(h'.objs.size, gobj)]) h'.objs.size s4.gens.size cd _ J H4 _ rfl rfl rfl (isg J0) (Array.getElem?_push_size ..) ?_ J0 isg (fun {ps σ' H' s'} J => ?_) (hq H4 cd post) (fun {C F r Qe W} m n hC hW hmn s6 H6 I6 w0 kp6 fr6 r6 => ⟨rfl, ?_⟩)
  · show h'.objs.size < (h'.push gobj).objs.size
    rw [Heap.size_push]
    exact Nat.lt_succ_self _
  · exact I4.call' (ch := fp) J.os J.base J.hok J.bare fun b hb => ⟨(f4 b hb).2.2.2.1, (f4 b hb).2.1, (f4 b hb).2.2.2.2.1, (f4 b hb).2.2.2.2.2⟩
  · have hlt5 : ∀ b ∈ fp, b < (h'.push gobj).objs.size := fun b hb => by
      rw [Heap.size_push]
      exact Nat.lt_succ_of_lt (Nat.lt_trans (hfp4 b hb).2 hga)
    refine segV_first (A := B) (m := m) rfl rfl ok.co rfl rfl (fun p hp b hb => ?_) T (pp.g _ _ _ _ _ _ _ hroom) (pp.t _ _ _ _ _ _ _ hroom) (pp.e _ _ _ _ _ _ _ hroom) hW hC n s6 s6 H6 hmn I6 ?_ (fun b hb => fr6 b (hlt5 b hb) (f4 b hb).1) w0 r6
    · rw [List.mem_singleton.mp hp]
      exact Nat.ne_of_gt (Nat.lt_trans (hfp4 b hb).2 hga)
    · exact T.keep _ _ _ st4 fun b hb o e => kp6 b o (k5 b o e) (f4 b hb).1
end
end Gx
end Text_Ge
section Text_Gf
set_option Elab.async false
set_option linter.all false
set_option maxRecDepth 100000
set_option maxHeartbeats 4000000
namespace Gx
open PySem PySem.Spec PyProof.Rows L2 GxR
/-- what any (neg false), all (neg true) do with an item -/
def cB (neg : Bool) (Q : VK) : Con := fun y H k => ∃ c, y = .bl c ∧ if c = neg then k H else Q (.bl (!neg)) H
theorem cB_mono (neg : Bool) (Q : VK) : (cB neg Q).Mono := fun y H k k' hk h => by
  obtain ⟨c, e, q⟩ := h
  refine ⟨c, e, ?_⟩
  by_cases z : c = neg
  · rw [if_pos z] at q ⊢
    exact hk _ q
  · rw [if_neg z] at q ⊢
    exact q
section
variable {Z : Cx}
/-- any's loop over a generator of ours -/
theorem any_turnsV {A : Around} {R : Result → Shared → Prop} {ga : Addr} {g : Nat} {Q : VK} (hh : A.handled = none) (hd : A.depth < recursionLimit)
    (hG : ∀ {ps σ' H'} {s' : Shared}, Inv Z ps σ' H' s' → s'.heap.IsGen ga g)
    (hR : ∀ (b : Bool) ps σ' H' s', Inv Z ps σ' H' s' → Q (.bl b) H' → R (.ok (.ret (.bool b))) s') :
    ∀ (n : Nat) (s : Shared), s.heap.IsGen ga g → s.heap.NoLimit →
      (∃ gs, s.gens[g]? = some gs ∧ gs.Goes (model Z.prog Z.w) A.in1.in1 (RV Z fun H => Q (.bl false) H) (YV Z (cB false Q)) n (.send .none) (s.setGen g .running)) →
      codeAny (model Z.prog Z.w) A (.builtin "any.loop" ⟨[.ref ga], []⟩) R s := by
  intro n
  induction n with
  | zero =>
    intro s hg hl hgo
    obtain ⟨gs, hgs, hgo⟩ := hgo
    refine codeAny_builtin F.entry_any_loop ?_
    rw [Around.under_plainId F.plain_any_loop _]
    show wpAny _ A.in1 (pyNext (.ref ga) >>= _) _ _ s
    refine wpAny_bind (wpAny_pyNext_genexpQ (A := A.in1) (P := fun _ _ s₁ => ∃ σ' H', Inv Z [] σ' H' s₁ ∧ Q (.bl false) H' ∧ True) hh hl hd hg hgs hgo (fun v s₁ gs' hb hv => ?_) (fun s₁ hp h' hk => ?_))
    · obtain ⟨y, ps, σ', H', _, ry, I, _, c, ey, q⟩ := hv
      subst ey
      obtain rfl : v = Value.bool c := ry
      cases c with
      | false => exact (Eq.mp (if_pos rfl) q s₁ I trivial).elim
      | true =>
        refine wpAny_bind (wpAny_holding (wpAny_truthy_bool (wpAny_bind (wpAny_letGo ?_))))
        simp only [if_true]
        refine wpAny_bind (wpAny_rule (wpAny_pure ?_))
        exact hR true ps σ' H' _ ((like_setGen I.bare hb).inv I) (Eq.mp (if_neg (show ¬ (true = false) by decide)) q)
    · obtain ⟨σ', H', I, q, _⟩ := hp
      refine wpAny_bind (wpAny_rule (wpAny_pure ?_))
      exact hR false [] σ' H' _ (((like_setGen (g := g) (x := .finished) I.bare rfl).inv I).kept (t' := s₁.toks) hk) q
  | succ n ih =>
    intro s hg hl hgo
    obtain ⟨gs, hgs, hgo⟩ := hgo
    have hgl : g < s.gens.size := (Array.getElem?_eq_some_iff.mp hgs).1
    refine codeAny_builtin F.entry_any_loop ?_
    rw [Around.under_plainId F.plain_any_loop _]
    show wpAny _ A.in1 (pyNext (.ref ga) >>= _) _ _ s
    refine wpAny_bind (GenW.wpAny_gsz (n := g + 1) hgl (wpAny_pyNext_genexpQ (A := A.in1) (P := fun _ _ s₁ => ∃ σ' H', Inv Z [] σ' H' s₁ ∧ Q (.bl false) H' ∧ True) hh hl hd hg hgs hgo (fun v s₁ gs' hb hv hsz => ?_) (fun s₁ hp h' hk hsz => ?_)))
    · obtain ⟨y, ps, σ', H', _, ry, I, _, c, ey, q⟩ := hv
      subst ey
      obtain rfl : v = Value.bool c := ry
      have L1 := like_setGen (g := g) I.bare hb
      have I1 := L1.inv I
      refine wpAny_bind (wpAny_holding (wpAny_truthy_bool (wpAny_bind (wpAny_letGo ?_))))
      cases c with
      | false =>
        simp only [Bool.false_eq_true, if_false]
        have hsz1 : g < s₁.gens.size := by
          have q : (s₁.setGen g gs').gens.size = s₁.gens.size := GenW.setGen_size _ _ _
          have hsz' : g + 1 ≤ (s₁.setGen g gs').gens.size := hsz
          omega
        refine wpAny_pure ⟨plainId_quiet F.plain_any_loop _, ih _ (hG I1) I1.nolimit ⟨gs', setGen_at hsz1, ?_⟩⟩
        exact Eq.mp (if_pos rfl) q _ ((like_trans L1 (like_setGen L1.bare rfl)).inv I) trivial
      | true =>
        simp only [if_true]
        refine wpAny_bind (wpAny_rule (wpAny_pure ?_))
        exact hR true ps σ' H' _ I1 (Eq.mp (if_neg (show ¬ (true = false) by decide)) q)
    · obtain ⟨σ', H', I, q, _⟩ := hp
      refine wpAny_bind (wpAny_rule (wpAny_pure ?_))
      exact hR false [] σ' H' _ (((like_setGen (g := g) (x := .finished) I.bare rfl).inv I).kept (t' := s₁.toks) hk) q

/-- all's loop over a generator of ours -/
theorem all_turnsV {A : Around} {R : Result → Shared → Prop} {ga : Addr} {g : Nat} {Q : VK} (hh : A.handled = none) (hd : A.depth < recursionLimit)
    (hG : ∀ {ps σ' H'} {s' : Shared}, Inv Z ps σ' H' s' → s'.heap.IsGen ga g)
    (hR : ∀ (b : Bool) ps σ' H' s', Inv Z ps σ' H' s' → Q (.bl b) H' → R (.ok (.ret (.bool b))) s') :
    ∀ (n : Nat) (s : Shared), s.heap.IsGen ga g → s.heap.NoLimit →
      (∃ gs, s.gens[g]? = some gs ∧ gs.Goes (model Z.prog Z.w) A.in1.in1 (RV Z fun H => Q (.bl true) H) (YV Z (cB true Q)) n (.send .none) (s.setGen g .running)) →
      codeAny (model Z.prog Z.w) A (.builtin "all.loop" ⟨[.ref ga], []⟩) R s := by
  intro n
  induction n with
  | zero =>
    intro s hg hl hgo
    obtain ⟨gs, hgs, hgo⟩ := hgo
    refine codeAny_builtin F.entry_all_loop ?_
    rw [Around.under_plainId F.plain_all_loop _]
    show wpAny _ A.in1 (pyNext (.ref ga) >>= _) _ _ s
    refine wpAny_bind (wpAny_pyNext_genexpQ (A := A.in1) (P := fun _ _ s₁ => ∃ σ' H', Inv Z [] σ' H' s₁ ∧ Q (.bl true) H' ∧ True) hh hl hd hg hgs hgo (fun v s₁ gs' hb hv => ?_) (fun s₁ hp h' hk => ?_))
    · obtain ⟨y, ps, σ', H', _, ry, I, _, c, ey, q⟩ := hv
      subst ey
      obtain rfl : v = Value.bool c := ry
      cases c with
      | true => exact (Eq.mp (if_pos rfl) q s₁ I trivial).elim
      | false =>
        refine wpAny_bind (wpAny_holding (wpAny_truthy_bool (wpAny_bind (wpAny_letGo ?_))))
        simp only [Bool.false_eq_true, if_false]
        refine wpAny_bind (wpAny_rule (wpAny_pure ?_))
        exact hR false ps σ' H' _ ((like_setGen I.bare hb).inv I) (Eq.mp (if_neg (show ¬ (false = true) by decide)) q)
    · obtain ⟨σ', H', I, q, _⟩ := hp
      refine wpAny_bind (wpAny_rule (wpAny_pure ?_))
      exact hR true [] σ' H' _ (((like_setGen (g := g) (x := .finished) I.bare rfl).inv I).kept (t' := s₁.toks) hk) q
  | succ n ih =>
    intro s hg hl hgo
    obtain ⟨gs, hgs, hgo⟩ := hgo
    have hgl : g < s.gens.size := (Array.getElem?_eq_some_iff.mp hgs).1
    refine codeAny_builtin F.entry_all_loop ?_
    rw [Around.under_plainId F.plain_all_loop _]
    show wpAny _ A.in1 (pyNext (.ref ga) >>= _) _ _ s
    refine wpAny_bind (GenW.wpAny_gsz (n := g + 1) hgl (wpAny_pyNext_genexpQ (A := A.in1) (P := fun _ _ s₁ => ∃ σ' H', Inv Z [] σ' H' s₁ ∧ Q (.bl true) H' ∧ True) hh hl hd hg hgs hgo (fun v s₁ gs' hb hv hsz => ?_) (fun s₁ hp h' hk hsz => ?_)))
    · obtain ⟨y, ps, σ', H', _, ry, I, _, c, ey, q⟩ := hv
      subst ey
      obtain rfl : v = Value.bool c := ry
      have L1 := like_setGen (g := g) I.bare hb
      have I1 := L1.inv I
      refine wpAny_bind (wpAny_holding (wpAny_truthy_bool (wpAny_bind (wpAny_letGo ?_))))
      cases c with
      | true =>
        simp only [if_true]
        have hsz1 : g < s₁.gens.size := by
          have q : (s₁.setGen g gs').gens.size = s₁.gens.size := GenW.setGen_size _ _ _
          have hsz' : g + 1 ≤ (s₁.setGen g gs').gens.size := hsz
          omega
        refine wpAny_pure ⟨plainId_quiet F.plain_all_loop _, ih _ (hG I1) I1.nolimit ⟨gs', setGen_at hsz1, ?_⟩⟩
        exact Eq.mp (if_pos rfl) q _ ((like_trans L1 (like_setGen L1.bare rfl)).inv I) trivial
      | false =>
        simp only [Bool.false_eq_true, if_false]
        refine wpAny_bind (wpAny_rule (wpAny_pure ?_))
        exact hR false ps σ' H' _ I1 (Eq.mp (if_neg (show ¬ (false = true) by decide)) q)
    · obtain ⟨σ', H', I, q, _⟩ := hp
      refine wpAny_bind (wpAny_rule (wpAny_pure ?_))
      exact hR true [] σ' H' _ (((like_setGen (g := g) (x := .finished) I.bare rfl).inv I).kept (t' := s₁.toks) hk) q

end
theorem Inn.two {k : Nat} {A : Around} (hr : Room (k + 1) A) : Inn k A A.in1.in1 := ⟨rfl, hr.hd, fun env => Room.g hr env, by have := hr.dp; show A.depth < _; omega⟩
def rdB (neg : Bool) (g : TG) (tt : TT) (te : Value → TE) (vs : List Nat) (σ : L2.St) (Q : VK) : It → Value → Hp → Prop := fun J cd H2 => ∃ W : Nat → Nat → Hp → Prop, (∃ m, W 0 m H2) ∧ TurnG J g tt (te cd) vs (wipe σ vs) Q neg W
/-- any, all of a generator expression, by how its code object is come by -/
def tGenC (Pre : Hp → Prop) (Post : Hp → Hp → Value → Prop) (neg : Bool) (wi : TI) (g : TG) (tt : TT) (te : Value → TE) (vs : List Nat) : TE := fun σ H Q => wi σ H fun J H1 => Pre H1 ∧ ∀ H2 cd, Post H1 H2 cd → rdB neg g tt te vs σ Q J cd H2
section
variable {X : Cx}
theorem pe_anyC {elt tg iter : Expr} {ifs : List Expr} {scope : Scope} {own : List (Str × Nat)} {pos gpos p : Pos} {wi : TI} {g : TG} {tt : TT} {te : Value → TE} {k : Nat} {Pre : Hp → Prop} {Post : Hp → Hp → Value → Prop}
    (hr : Room (k + 1) X.A) (hgl : Gl X "any") (hm : X.mg "any" = none) (bm : ∃ P, X.base.BuiltinsAt X.mg P) (mk : MkC X gpos (X.env.qual ++ "<genexpr>") scope Pre Post) (hN : X.N.Nodup) (ok : GOkC X.N X.env.scope scope own) (hi : PI X tg iter wi)
    (pp : Parts X k scope tg ifs elt g tt te) (hs : ∀ v, genFold iter X.env v = pure v := by intro _; rfl)
    (hst : starEach [.GeneratorExp elt [⟨tg, iter, ifs, 0⟩] scope gpos] X.env = (false, eval (.GeneratorExp elt [⟨tg, iter, ifs, 0⟩] scope gpos) X.env) :: starEach [] X.env := by rfl) :
    PE X (.Call (.Name "any" p) [.GeneratorExp elt [⟨tg, iter, ifs, 0⟩] scope gpos] [] pos) (tGenC Pre Post false wi g tt te (own.map (·.2))) := by
  refine ⟨fun pins s σ H Q I h => ?_⟩
  refine wpAny_Call_Name_kw (ld_blt I hgl hm boot_any ?_)
  refine PyProof.Rows.callWith_builtin1 ?_ hst (by rfl)
  rw [hst]
  show wpAny _ _ (spliced ((false, eval (.GeneratorExp elt [⟨tg, iter, ifs, 0⟩] scope gpos) X.env) :: backTo pos (starEach [] X.env))) _ _ s
  refine Calls.spliced_cons (gen_madeC (Rd := rdB false g tt te (own.map fun q : Str × Nat => q.2) σ Q) (by have := hr.dp; omega) (Inn.two hr) bm mk hN ok hi pp hs I h fun Z ga gn cd code J H4 s5 hp hw hK isg hgs hlt I5 hI back rd go => ?_)
  obtain ⟨W, ⟨m, w0⟩, hW⟩ := rd
  refine Calls.spliced_nil ?_
  refine call_function_tree F.kind_any F.plain_any F.entry_any (F.args_any1 _) ?_
  unfold Builtin.«any»
  refine wpAny_bind (m := oneArg "any" _) (wpAny_pure ?_)
  refine wpAny_bind (wpAny_pyIter_gen isg ?_)
  rw [← hp, ← hw] at *
  refine wpAny_pure ⟨plainId_quiet F.plain_any_loop _, ?_⟩
  refine any_turnsV (Z := Z) (A := X.A) (Q := Q) hr.hd (by have := hr.dp; omega) hI (fun b ps σ' H' s' J q => ?_) (m + 1) s5 isg I5.nolimit ⟨_, hgs, go m (m + 1) (cB_mono _ _).keeps hW (Nat.le_refl _) _ H4 ((like_setGen I5.bare rfl).inv I5) w0 (fun b o e _ => e) (fun b _ e => e) trivial⟩
  exact ⟨.bl b, H', back J, rfl, q⟩
theorem pe_allC {elt tg iter : Expr} {ifs : List Expr} {scope : Scope} {own : List (Str × Nat)} {pos gpos p : Pos} {wi : TI} {g : TG} {tt : TT} {te : Value → TE} {k : Nat} {Pre : Hp → Prop} {Post : Hp → Hp → Value → Prop}
    (hr : Room (k + 1) X.A) (hgl : Gl X "all") (hm : X.mg "all" = none) (bm : ∃ P, X.base.BuiltinsAt X.mg P) (mk : MkC X gpos (X.env.qual ++ "<genexpr>") scope Pre Post) (hN : X.N.Nodup) (ok : GOkC X.N X.env.scope scope own) (hi : PI X tg iter wi)
    (pp : Parts X k scope tg ifs elt g tt te) (hs : ∀ v, genFold iter X.env v = pure v := by intro _; rfl)
    (hst : starEach [.GeneratorExp elt [⟨tg, iter, ifs, 0⟩] scope gpos] X.env = (false, eval (.GeneratorExp elt [⟨tg, iter, ifs, 0⟩] scope gpos) X.env) :: starEach [] X.env := by rfl) :
    PE X (.Call (.Name "all" p) [.GeneratorExp elt [⟨tg, iter, ifs, 0⟩] scope gpos] [] pos) (tGenC Pre Post true wi g tt te (own.map (·.2))) := by
  refine ⟨fun pins s σ H Q I h => ?_⟩
  refine wpAny_Call_Name_kw (ld_blt I hgl hm boot_all ?_)
  refine PyProof.Rows.callWith_builtin1 ?_ hst (by rfl)
  rw [hst]
  show wpAny _ _ (spliced ((false, eval (.GeneratorExp elt [⟨tg, iter, ifs, 0⟩] scope gpos) X.env) :: backTo pos (starEach [] X.env))) _ _ s
  refine Calls.spliced_cons (gen_madeC (Rd := rdB true g tt te (own.map fun q : Str × Nat => q.2) σ Q) (by have := hr.dp; omega) (Inn.two hr) bm mk hN ok hi pp hs I h fun Z ga gn cd code J H4 s5 hp hw hK isg hgs hlt I5 hI back rd go => ?_)
  obtain ⟨W, ⟨m, w0⟩, hW⟩ := rd
  refine Calls.spliced_nil ?_
  refine call_function_tree F.kind_all F.plain_all F.entry_all (F.args_all1 _) ?_
  unfold Builtin.«all»
  refine wpAny_bind (m := oneArg "all" _) (wpAny_pure ?_)
  refine wpAny_bind (wpAny_pyIter_gen isg ?_)
  rw [← hp, ← hw] at *
  refine wpAny_pure ⟨plainId_quiet F.plain_all_loop _, ?_⟩
  refine all_turnsV (Z := Z) (A := X.A) (Q := Q) hr.hd (by have := hr.dp; omega) hI (fun b ps σ' H' s' J q => ?_) (m + 1) s5 isg I5.nolimit ⟨_, hgs, go m (m + 1) (cB_mono _ _).keeps hW (Nat.le_refl _) _ H4 ((like_setGen I5.bare rfl).inv I5) w0 (fun b o e _ => e) (fun b _ e => e) trivial⟩
  exact ⟨.bl b, H', back J, rfl, q⟩
end
end Gx
end Text_Gf
section Text_Gg
set_option Elab.async false
set_option linter.all false
set_option maxRecDepth 100000
set_option maxHeartbeats 4000000
namespace Gx
open PySem PySem.Spec PyProof.Rows L2 GxR
/-- what a list's making does with an item: it is appended to the list at S -/
def cL (S : Addr) : Con := fun y H k => ∃ acc, H S = some (.lst acc) ∧ acc.length < sizeLine ∧ k (upd H S (.lst (acc ++ [y])))
theorem cL_mono (S : Addr) : (cL S).Mono := fun y H k k' hk ⟨acc, e, l, q⟩ => ⟨acc, e, l, hk _ q⟩
section
variable {Z : Cx}
theorem app_len {acc : List V} {y : V} (h : acc.length < sizeLine) : (acc ++ [y]).length ≤ sizeLine := by
  rw [List.length_append, List.length_singleton]
  omega
theorem extend_turnsV {A : Around} {R : Result → Shared → Prop} {ga S : Addr} {g : Nat} {res : Value} {Qe : Hp → Prop} (hh : A.handled = none) (hd : A.depth < recursionLimit)
    (hG : ∀ {ps σ' H'} {s' : Shared}, Inv Z ps σ' H' s' → s'.heap.IsGen ga g) (hR : ∀ σ' H' s', Inv Z [] σ' H' s' → Qe H' → R (.ok (.ret res)) s') :
    ∀ (n : Nat) (s : Shared), s.heap.IsGen ga g → s.heap.NoLimit →
      (∃ gs, s.gens[g]? = some gs ∧ gs.Goes (model Z.prog Z.w) A.in1.in1 (RV Z Qe) (YV Z (cL S)) n (.send .none) (s.setGen g .running)) →
      codeAny (model Z.prog Z.w) A (.builtin "list.extend.loop" ⟨[.ref S, .ref ga, res], []⟩) R s := by
  intro n
  induction n with
  | zero =>
    intro s hg hl hgo
    obtain ⟨gs, hgs, hgo⟩ := hgo
    refine codeAny_builtin F.entry_extend_loop ?_
    rw [Around.under_plainId F.plain_extend_loop _]
    show wpAny _ A.in1 (pyNext (.ref ga) >>= _) _ _ s
    refine wpAny_bind (wpAny_pyNext_genexpQ (A := A.in1) (P := fun _ _ s₁ => ∃ σ' H', Inv Z [] σ' H' s₁ ∧ Qe H' ∧ True) hh hl hd hg hgs hgo (fun v s₁ gs' hb hv => ?_) (fun s₁ hp h' hk => ?_))
    · obtain ⟨y, ps, σ', H', _, ry, I, _, acc, e, hlt, q⟩ := hv
      obtain ⟨z, its, nn, r, hl', e'⟩ := I.lstM e
      exact (q _ (I.lset (f := (·.push v)) (t' := s₁.toks) (its' := its ++ [v]) e e' (by simp) (r.append (.cons ry .nil)) (app_len hlt)) trivial).elim
    · obtain ⟨σ', H', I, q, _⟩ := hp
      exact wpAny_pure (hR σ' H' _ (((like_setGen (g := g) (x := .finished) I.bare rfl).inv I).kept (t' := s₁.toks) hk) q)
  | succ n ih =>
    intro s hg hl hgo
    obtain ⟨gs, hgs, hgo⟩ := hgo
    have hgl : g < s.gens.size := (Array.getElem?_eq_some_iff.mp hgs).1
    refine codeAny_builtin F.entry_extend_loop ?_
    rw [Around.under_plainId F.plain_extend_loop _]
    show wpAny _ A.in1 (pyNext (.ref ga) >>= _) _ _ s
    refine wpAny_bind (GenW.wpAny_gsz (n := g + 1) hgl (wpAny_pyNext_genexpQ (A := A.in1) (P := fun _ _ s₁ => ∃ σ' H', Inv Z [] σ' H' s₁ ∧ Qe H' ∧ True) hh hl hd hg hgs hgo (fun v s₁ gs' hb hv hsz => ?_) (fun s₁ hp h' hk hsz => ?_)))
    · obtain ⟨y, ps, σ', H', _, ry, I, _, acc, e, hlt, q⟩ := hv
      have I1 := (like_setGen (g := g) I.bare hb).inv I
      obtain ⟨z, its, nn, r, hl', e'⟩ := I1.lstM e
      have hsz1 : g < s₁.gens.size := by
        have q : (s₁.setGen g gs').gens.size = s₁.gens.size := GenW.setGen_size _ _ _
        have hsz' : g + 1 ≤ (s₁.setGen g gs').gens.size := hsz
        omega
      have I2 := I1.lset (f := (·.push v)) (t' := s₁.toks) (its' := its ++ [v]) e e' (by simp) (r.append (.cons ry .nil)) (app_len hlt)
      show wpAny _ A.in1 (updateSeq S (·.push v) >>= _) _ _ _
      refine wpAny_bind ?_
      refine wpAny_updateSeq e' rfl (wpAny_pure ⟨plainId_quiet F.plain_extend_loop _, ih _ (hG I2) I2.nolimit ⟨gs', setGen_at (s := s₁) hsz1, q _ ((like_setGen I2.bare rfl).inv I2) trivial⟩⟩) (by rw [List.size_toArray]; omega) (by show (its.toArray.push v).size ≤ _; rw [Array.size_push, List.size_toArray]; omega)
    · obtain ⟨σ', H', I, q, _⟩ := hp
      exact wpAny_pure (hR σ' H' _ (((like_setGen (g := g) (x := .finished) I.bare rfl).inv I).kept (t' := s₁.toks) hk) q)
/-- all items of a generator of ours are collected -/
theorem collect_V {A : Around} {Q : List Value → Shared → Prop} {E : Value → Shared → Prop} {ga : Addr} {g : Nat} {gs : GenState} {σ0 : L2.St} {H4 : Hp} {s : Shared} {Qt : List V → Hp → Prop} (hh : A.handled = none) (hd : A.depth < recursionLimit)
    (hG : ∀ {ps σ' H'} {s' : Shared}, Inv Z ps σ' H' s' → s'.heap.IsGen ga g) (I : Inv Z [] σ0 H4 s) (hgs : s.gens[g]? = some gs) (hlt : ga < s.heap.objs.size)
    (go : ∀ S, H4 S = none → s.heap.objs.size ≤ S → ∃ n, ∀ s6, Inv Z [] σ0 (upd H4 S (.lst [])) s6 → (∀ b o, s.heap.get? b = some o → s6.heap.get? b = some o) →
      gs.Goes (model Z.prog Z.w) A.in1.in1 (RV Z fun H => ∃ acc, H S = some (.lst acc) ∧ Qt acc H) (YV Z (cL S)) n (.send .none) s6)
    (hQ : ∀ acc its σ' H' s', Inv Z [] σ' H' s' → Vals acc its → acc.length ≤ sizeLine → Qt acc H' → Q its s') : wpAny (model Z.prog Z.w) A (collect (.ref ga)) Q E s := by
  have hS : H4 s.heap.objs.size = none := I.hok.fresh (Nat.le_refl _)
  have hSI : s.heap.objs.size ≠ ga := Nat.ne_of_gt hlt
  obtain ⟨n, hgo⟩ := go _ hS (Nat.le_refl _)
  have hg := hG I
  unfold collect
  refine wpAny_bind (wpAny_runValue (codeAny_builtin F.entry_proto_collect ?_))
  rw [Around.under_plainId F.plain_proto_collect _]
  show wpAny _ A.in1 (newList [] >>= fun l => again (.builtin "list.__iadd__" ⟨[l, .ref ga], []⟩)) _ _ s
  refine wpAny_bind (wpAny_newObj_type ?_)
  refine wpAny_pure ⟨plainId_quiet F.plain_list_iadd _, codeAny_builtin F.entry_list_iadd ?_⟩
  rw [Around.under_plainId F.plain_list_iadd _]
  have kp1 : ∀ b o, s.heap.get? b = some o → (s.heap.push { cls := .type "list", data := .seq ([] : List Value).toArray }).get? b = some o := fun b o e => Heap.get?_push_of_some _ e
  have hg1 : (s.heap.push { cls := .type "list", data := .seq ([] : List Value).toArray }).IsGen ga g := hg.keeps kp1
  show wpAny _ A.in1 (Builtin.List.listExtendWith (.ref s.heap.objs.size) (.ref ga) (.ref s.heap.objs.size)) _ _ _
  unfold Builtin.List.listExtendWith
  refine wpAny_bind (wpAny_typeOf (Heap.IsGen.typeIs (s := { s with heap := _ }) hg1) ?_)
  have h1 : Builtin.List.listSameRef (.ref s.heap.objs.size) (.ref ga) = false := by simp [Builtin.List.listSameRef, hSI]
  have h2 : (Value.type "generator" == Value.type "list") = false := by decide
  have h3 : (Value.type "generator" == Value.type "tuple") = false := by decide
  simp only [h1, h2, h3, Bool.or_false, Bool.false_eq_true, if_false]
  refine wpAny_bind (wpAny_pyIter_gen (s := { s with heap := _ }) hg1 ?_)
  refine wpAny_bind (wpAny_holding ?_)
  unfold Builtin.List.listLengthHint
  refine wpAny_bind (wpAny_specialOf (Heap.IsGen.typeIs (s := { s with heap := _ }) hg1) F.gen_no_len ?_)
  show wpAny _ A.in1 (specialOf (Value.ref ga) (Str.ofString "__length_hint__") >>= _) _ _ _
  refine wpAny_bind (wpAny_specialOf (Heap.IsGen.typeIs (s := { s with heap := _ }) hg1) F.gen_no_hint ?_)
  refine wpAny_pure ?_
  show wpAny _ A.in1 (rule "list.extend.makes-room" >>= fun _ => Builtin.List.listTouch (.ref s.heap.objs.size) >>= fun _ =>
    again (.builtin "list.extend.loop" ⟨[.ref s.heap.objs.size, .ref ga, .ref s.heap.objs.size], []⟩)) _ _ _
  refine wpAny_bind (wpAny_rule ?_)
  have hS₁ : (s.heap.push { cls := .type "list", data := .seq ([] : List Value).toArray }).get? s.heap.objs.size = some { cls := .type "list", data := .seq ([] : List Value).toArray } := Heap.get?_push_size _ rfl
  refine wpAny_bind ?_
  show wpAny _ A.in1 (updateSeq s.heap.objs.size (·.push .none) >>= fun _ => updateSeq s.heap.objs.size (·.pop)) _ _ _
  refine wpAny_bind (wpAny_updateSeq hS₁ rfl ?_)
  have hS₂ := Heap.get?_update_self (Obj.mapSeq (·.push Value.none)) hS₁ rfl
  refine wpAny_updateSeq hS₂ rfl ?_
  have hS₃ := Heap.get?_update_self (Obj.mapSeq (·.pop)) hS₂ rfl
  have oth : ∀ b o, s.heap.get? b = some o →
      (((s.heap.push { cls := .type "list", data := .seq ([] : List Value).toArray }).update s.heap.objs.size (Obj.mapSeq (·.push Value.none))).update s.heap.objs.size (Obj.mapSeq (·.pop))).get? b = some o :=
    fun b o e => (Heap.get?_update_other _ _ (Nat.ne_of_gt (Heap.lt_size e))).trans ((Heap.get?_update_other _ _ (Nat.ne_of_gt (Heap.lt_size e))).trans (kp1 b o e))
  have I1 := I.laid (o := .lst []) (t' := s.toks) oth (Nat.le_refl _) ⟨Nat.zero_le _, [], _, .nil, hS₃⟩
  refine wpAny_pure ⟨plainId_quiet F.plain_extend_loop _, extend_turnsV (Qe := fun H => ∃ acc, H s.heap.objs.size = some (.lst acc) ∧ Qt acc H) hh hd hG (fun σ' H' s' J q => ?_) n _ (hG I1) I1.nolimit ⟨gs, hgs, hgo _ ((like_setGen I1.bare rfl).inv I1) oth⟩⟩
  obtain ⟨acc, e, qt⟩ := q
  obtain ⟨z, its, nn, r, _, e'⟩ := J.lstM e
  show wpAny _ A (load s.heap.objs.size >>= _) _ _ s'
  refine wpAny_bind (wpAny_load e' ?_)
  exact wpAny_pure (hQ acc its σ' H' s' J r z qt)
end
end Gx
end Text_Gg
section Text_Gh
set_option Elab.async false
set_option linter.all false
set_option maxRecDepth 100000
set_option maxHeartbeats 4000000
namespace Gx
open PySem PySem.Spec PyProof.Rows L2 GxR
open AutoSeq1 (wpAny_loadPart')
section
variable {Z : Cx}
theorem code_tuple_V {A : Around} {Q₁ E : Value → Shared → Prop} {ga : Addr} {g : Nat} {gs : GenState} {σ0 : L2.St} {H4 : Hp} {s : Shared} {Qt : List V → Hp → Prop} (hh : A.handled = none) (hd : A.depth < recursionLimit)
    (hG : ∀ {ps σ' H'} {s' : Shared}, Inv Z ps σ' H' s' → s'.heap.IsGen ga g) (I : Inv Z [] σ0 H4 s) (hgs : s.gens[g]? = some gs) (hlt : ga < s.heap.objs.size)
    (go : ∀ S, H4 S = none → s.heap.objs.size ≤ S → ∃ n, ∀ s6, Inv Z [] σ0 (upd H4 S (.lst [])) s6 → (∀ b o, s.heap.get? b = some o → s6.heap.get? b = some o) →
      gs.Goes (model Z.prog Z.w) A.in1.in1.in1 (RV Z fun H => ∃ acc, H S = some (.lst acc) ∧ Qt acc H) (YV Z (cL S)) n (.send .none) s6)
    (hQ : ∀ acc its σ' H' s', Inv Z [] σ' H' s' → Vals acc its → acc.length ≤ sizeLine → Qt acc H' → Q₁ (.ref s'.heap.objs.size) { s' with heap := s'.heap.push { cls := .type "tuple", data := .seq its.toArray } }) :
    codeAny (model Z.prog Z.w) A (.call (.builtin "tuple.__new__") ⟨[.type "tuple", .ref ga], []⟩) (wants Q₁ E) s := by
  refine codeAny_of_tree ?_
  show wpAny _ A.in1 (do checkBuiltinCall "tuple.__new__" ⟨[.type "tuple", .ref ga], []⟩; again (.builtin "tuple.__new__" ⟨[.type "tuple", .ref ga], []⟩)) _ _ s
  refine wpAny_bind (wpAny_of_eq (F.newCall_tuple_1 _) (wpAny_pure ⟨plainId_quiet F.plain_tuple_new _, codeAny_builtin F.entry_tuple_new ?_⟩))
  rw [Around.under_plainId F.plain_tuple_new _]
  have hsub := sub_tuple_self
  have hinit := init_tuple_lookup
  have hmh := madeHere_tuple
  have hTI : s.TypeIs (.ref ga) "generator" := (hG I).typeIs
  wp_walk using wpAny_typeOf hTI, collect_V (A := A.in1) hh hd hG I hgs hlt go
  intro acc its σ' H' s' J r z qt
  show wpAny _ _ (Builtin.Tuple.tupleExact its.toArray >>= fun v => ret v) _ _ _
  unfold Builtin.Tuple.tupleExact
  refine wpAny_bind (wpAny_newObj_type ?_ (by show its.toArray.size ≤ sizeLine; rw [List.size_toArray, ← r.length]; exact z))
  refine wpAny_pure ?_
  exact hQ acc its σ' H' s' J r z qt
end
theorem Inn.four {k : Nat} {A : Around} (hr : Room (k + 1) A) : Inn k A A.in1.in1.in1.in1 :=
  ⟨rfl, hr.hd, fun env => ⟨hr.hd, by have := hr.dp; show A.depth + 1 + 3 * k + 5 < _; omega, by have := hr.un; show A.units + 1 + 1 + 1 + 1 + 3 + 16 * k + 200 < _; omega⟩, by have := hr.dp; show A.depth < _; omega⟩
def rdT (g : TG) (tt : TT) (te : Value → TE) (vs : List Nat) (σ : L2.St) (Q : VK) : It → Value → Hp → Prop := fun J cd H2 => ∀ S, H2 S = none → ∃ W : Nat → Nat → Hp → Prop, (∃ m, W 0 m (upd H2 S (.lst []))) ∧
  TurnV J g tt (te cd) vs (wipe σ vs) (cL S) (fun H => ∃ acc, H S = some (.lst acc) ∧ ∀ p, H p = none → Q (.ref p) (upd H p (.tup acc))) W
/-- tuple of a generator expression: its list at S stays behind, nobody's -/
def tTupC (Pre : Hp → Prop) (Post : Hp → Hp → Value → Prop) (wi : TI) (g : TG) (tt : TT) (te : Value → TE) (vs : List Nat) : TE := fun σ H Q => wi σ H fun J H1 => Pre H1 ∧ ∀ H2 cd, Post H1 H2 cd → rdT g tt te vs σ Q J cd H2
section
variable {X : Cx}
theorem pe_tupleC {elt tg iter : Expr} {ifs : List Expr} {scope : Scope} {own : List (Str × Nat)} {pos gpos p : Pos} {wi : TI} {g : TG} {tt : TT} {te : Value → TE} {k : Nat} {Pre : Hp → Prop} {Post : Hp → Hp → Value → Prop}
    (hr : Room (k + 1) X.A) (hgl : Gl X "tuple") (hm : X.mg "tuple" = none) (bm : ∃ P, X.base.BuiltinsAt X.mg P) (mk : MkC X gpos (X.env.qual ++ "<genexpr>") scope Pre Post) (hN : X.N.Nodup) (ok : GOkC X.N X.env.scope scope own) (hi : PI X tg iter wi)
    (pp : Parts X k scope tg ifs elt g tt te) (hs : ∀ v, genFold iter X.env v = pure v := by intro _; rfl)
    (hst : starEach [.GeneratorExp elt [⟨tg, iter, ifs, 0⟩] scope gpos] X.env = (false, eval (.GeneratorExp elt [⟨tg, iter, ifs, 0⟩] scope gpos) X.env) :: starEach [] X.env := by rfl) :
    PE X (.Call (.Name "tuple" p) [.GeneratorExp elt [⟨tg, iter, ifs, 0⟩] scope gpos] [] pos) (tTupC Pre Post wi g tt te (own.map (·.2))) := by
  refine ⟨fun pins s σ H Q I h => ?_⟩
  refine wpAny_Call_Name_kw (ld_blt I hgl hm (show bootBuiltins "tuple" = some (.type "tuple") by decide +kernel) ?_)
  refine PyProof.Rows.callWith_type1 ?_ hst (by rfl)
  rw [hst]
  show wpAny _ _ (spliced ((false, eval (.GeneratorExp elt [⟨tg, iter, ifs, 0⟩] scope gpos) X.env) :: backTo pos (starEach [] X.env))) _ _ s
  refine Calls.spliced_cons (gen_madeC (Rd := rdT g tt te (own.map fun q : Str × Nat => q.2) σ Q) (by have := hr.dp; omega) (Inn.four hr) bm mk hN ok hi pp hs I h fun Z ga gn cd code J H4 s5 hp hw hK isg hgs hlt I5 hI back rd go => ?_)
  refine Calls.spliced_nil ?_
  rw [← hp, ← hw] at *
  refine callType_codes (Q₁ := fun obj s₁ => s₁.TypeIs obj "tuple" ∧ EP X pins σ Q obj s₁) F.called_tuple (F.typeCall_tuple_1 _) F.entry_object_init
    (code_tuple_V (A := X.A.in1) (Qt := fun acc H => ∀ p, H p = none → Q (.ref p) (upd H p (.tup acc))) hr.hd (by have := hr.dp; show X.A.depth < _; omega) hI I5 hgs hlt (fun S hS hS2 => ?_) fun acc its σ' H' s' J r z qt => ⟨⟨_, Heap.get?_push_size _ rfl, rfl⟩, ?_⟩) fun obj s₁ h₁ => ?_
  · obtain ⟨W, ⟨m, w0⟩, hW⟩ := rd S hS
    exact ⟨m + 1, fun s6 I6 kp => go m (m + 1) (cL_mono S).keeps hW (Nat.le_refl _) s6 _ I6 w0 (fun b o e _ => kp b o e) (fun b hb e => by rw [upd_ne (Nat.ne_of_lt (Nat.lt_of_lt_of_le hb hS2))]; exact e) trivial⟩
  · have I' := (back J).laid (o := .tup acc) (t' := s'.toks) (fun b u e => Heap.get?_push_of_some _ e) (Nat.le_refl _) (show ObjOk X.prog X.w _ _ _ (.tup acc) from ⟨z, its, r, { cls := .type "tuple", data := .seq its.toArray }, Heap.get?_push_size _ rfl, rfl, _, rfl⟩)
    exact ⟨.ref _, _, I', rfl, qt _ ((back J).hok.fresh (Nat.le_refl _))⟩
  · exact ⟨h₁.1, F.args_object_init_2 obj _, object_init_meets F.called_tuple.init.lookup F.called_tuple.made (by decide) Z.prog Z.w X.A.in1 _ s₁ ⟨h₁.1, rfl, h₁.2⟩⟩
end
end Gx
end Text_Gh
section Text_Gi
set_option Elab.async false
set_option linter.all false
set_option maxRecDepth 100000
set_option maxHeartbeats 4000000
namespace Gx
open PySem PySem.Spec PyProof.Rows L2 GxR
open PySem.W (alike dataLt)
/-- what min does with an item: the least so far stands twice in the list at S -/
def cM (K : PySem.W.Frag) (S : Addr) : Con := fun y H k => ∃ d, Dp K H y d ∧ d ≠ .none ∧ d.depth ≤ 20 ∧ ((H S = some (.lst []) ∧ k (upd H S (.lst [y, y]))) ∨
  ∃ b db, H S = some (.lst [b, b]) ∧ Dp K H b db ∧ alike d db = true ∧ (dataLt d db = true → k (upd H S (.lst [y, y]))) ∧ (dataLt d db = false → k H))
theorem cM_mono (K : PySem.W.Frag) (S : Addr) : (cM K S).Mono := fun y H k k' hk ⟨d, h1, h2, h3, h4⟩ => ⟨d, h1, h2, h3, h4.elim (fun q => .inl ⟨q.1, hk _ q.2⟩) fun ⟨b, db, q1, q2, q3, q4, q5⟩ => .inr ⟨b, db, q1, q2, q3, fun z => hk _ (q4 z), fun z => hk _ (q5 z)⟩⟩
theorem len2 : ∀ y : V, [y, y].length ≤ sizeLine := fun y => by show 2 ≤ sizeLine; decide
/-- S is what it was at the last waking -/
def rS (S : Addr) : Shared → Hp → Prop := fun s₀ H => ∀ its c, s₀.heap.get? S = some { cls := .type "list", data := .seq its c } → ∃ xs, H S = some (.lst xs) ∧ Vals xs its.toList
def cK (K : PySem.W.Frag) (S : Addr) : Hp → Con := fun H0 y H k => cM K S y H k ∧ H S = H0 S
def fK (S : Addr) : Lef := fun H0 H k => k H ∧ H S = H0 S
theorem cK_keeps (K : PySem.W.Frag) (S : Addr) : Keeps (rS S) (cK K S) (fK S) :=
  ⟨fun H y G k k' hk h => ⟨cM_mono K S y G k k' hk h.1, h.2⟩, fun s₀ H y H4 k h r its c e => by rw [h.2]; exact r its c e, fun s₀ H H3 k h r => ⟨fun its c e => by rw [h.2]; exact r its c e, h.1⟩⟩
theorem lstObj_inj {its its2 : Array Value} {c c2 : Nat} (e : (some { cls := .type "list", data := .seq its c } : Option Obj) = some { cls := .type "list", data := .seq its2 c2 }) : its = its2 := by
  have := congrArg (fun o : Option Obj => o.map fun o => o.data) e
  simp at this
  exact this.1
section
variable {Z : Cx}
theorem rS_of {S : Addr} {ps : List (Addr × Obj)} {σ : L2.St} {H : Hp} {s : Shared} {xs : List V} (I : Inv Z ps σ H s) (e : H S = some (.lst xs)) : rS S s H := fun its c e2 => by
  obtain ⟨z, its', nn, r, hl', e'⟩ := I.lstM e
  rw [e'] at e2
  have := lstObj_inj e2
  subst this
  exact ⟨xs, e, r⟩
/-- a walk of min that has n items at most -/
def MinGo (Z : Cx) (A : Around) (g : Nat) (S : Addr) (Qe : Hp → Prop) (n : Nat) (s : Shared) : Prop := ∃ gs ps σ' H' xs, Inv Z ps σ' H' s ∧ H' S = some (.lst xs) ∧ s.gens[g]? = some gs ∧
  gs.Goes (model Z.prog Z.w) A.in1.in1 (RK Z Qe (rS S)) (YK Z (cK Z.K S) (rS S)) n (.send .none) (s.setGen g .running)
theorem min_turnsV {A : Around} {R : Result → Shared → Prop} {ga S : Addr} {g : Nat} {Qe : Hp → Prop} (hh : A.handled = none) (hd : A.depth < recursionLimit) (hu : A.in1.units + 20 < cLine)
    (hG : ∀ {ps σ' H'} {s' : Shared}, Inv Z ps σ' H' s' → s'.heap.IsGen ga g)
    (hR : ∀ b v σ' H' s', Inv Z [] σ' (upd H' S (.lst [])) s' → Qe H' → H' S = some (.lst [b, b]) → L2.RelV b v → R (.ok (.ret v)) s') (hQ : ∀ H', Qe H' → ∃ b, H' S = some (.lst [b, b])) :
    ∀ (n : Nat) (s : Shared), MinGo Z A g S Qe n s → codeAny (model Z.prog Z.w) A (.builtin "min.loop" ⟨[.ref ga, .none, .ref S], []⟩) R s := by
  have hname : (toString "min" ++ toString ".loop" : String) = "min.loop" := by decide
  have step : ∀ n : Nat, (∀ m, n = m + 1 → ∀ s, MinGo Z A g S Qe m s → codeAny (model Z.prog Z.w) A (.builtin "min.loop" ⟨[.ref ga, .none, .ref S], []⟩) R s) → ∀ s, MinGo Z A g S Qe n s → codeAny (model Z.prog Z.w) A (.builtin "min.loop" ⟨[.ref ga, .none, .ref S], []⟩) R s := by
    intro n ih s hgo
    obtain ⟨gs, ps0, σ0, H0, xs0, I0, e0, hgs, hgo⟩ := hgo
    have hgl : g < s.gens.size := (Array.getElem?_eq_some_iff.mp hgs).1
    obtain ⟨z0, its, nn, r0, hl0, e0'⟩ := I0.lstM e0
    refine codeAny_builtin F.entry_min_loop ?_
    rw [Around.under_plainId F.plain_min_loop _]
    show wpAny _ A.in1 (seqItems? (.ref S) >>= _) _ _ s
    refine wpAny_bind (wpAny_seqItems e0' rfl ?_)
    show wpAny _ A.in1 (tryCatch (pyNext (.ref ga)) _ >>= _) _ _ s
    refine wpAny_bind (wpAny_tryCatch (GenW.wpAny_gsz (n := g + 1) hgl (wpAny_pyNext_genexpQ (A := A.in1) (P := fun _ s₀ s₁ => ∃ σ' H', Inv Z [] σ' H' s₁ ∧ Qe H' ∧ rS S s₀ H') hh I0.nolimit hd (hG I0) hgs hgo (fun v s₁ gs' hb hv hsz => ?_) (fun s₁ hp h' hk hsz => ?_))))
    · obtain ⟨y, ps, σ', H', Hs, ry, I, rr, ⟨d, h1, h2, h3, h4⟩, _⟩ := hv
      obtain ⟨xs, e, r⟩ := rr _ _ e0'
      have I1 := (like_setGen (g := g) I.bare hb).inv I
      have hsz1 : g < s₁.gens.size := by
        have q : (s₁.setGen g gs').gens.size = s₁.gens.size := GenW.setGen_size _ _ _
        have hsz' : g + 1 ≤ (s₁.setGen g gs').gens.size := hsz
        omega
      have again : ∀ (xs2 : List V) (H2 : Hp) (s2 : Shared), s2.gens = (s₁.setGen g gs').gens → Inv Z ps σ' H2 s2 → H2 S = some (.lst xs2) → (∀ s', Inv Z ps σ' H2 s' → rS S s' H2 → (n = 0 → False) ∧ ∀ m, n = m + 1 →
          gs'.Goes (model Z.prog Z.w) A.in1.in1 (RK Z Qe (rS S)) (YK Z (cK Z.K S) (rS S)) m (.send .none) s') →
          codeAny (model Z.prog Z.w) A (.builtin "min.loop" ⟨[.ref ga, .none, .ref S], []⟩) R s2 := by
        intro xs2 H2 s2 hg2 I2 e2 k
        have I3 := (like_setGen (g := g) (x := .running) I2.bare rfl).inv I2
        obtain ⟨k1, k2⟩ := k _ I3 (rS_of I3 e2)
        rcases Nat.eq_zero_or_pos n with hz | hz
        · exact (k1 hz).elim
        · have hn : n = n - 1 + 1 := by omega
          exact ih _ hn s2 ⟨gs', ps, σ', H2, xs2, I2, e2, by rw [hg2]; exact setGen_at hsz1, k2 _ hn⟩
      rcases h4 with ⟨e4, k⟩ | ⟨b, db, e4, hb4, ha, k1, k2⟩
      · rw [e4] at e
        obtain rfl := HO.lst.inj (Option.some.inj e)
        have r : Vals [] its := by simpa using r
        cases r
        obtain ⟨z, its1, n1, rv, hl', e1⟩ := I1.lstM e4
        show wpAny _ A.in1 (updateSeq S (fun _ => #[v, v]) >>= _) _ _ _
        refine wpAny_bind ?_
        refine wpAny_updateSeq e1 rfl ?_ (by rw [List.size_toArray, ← rv.length]; exact z) (by show 2 ≤ sizeLine + 1; decide)
        rw [hname]
        have I2 := I1.lset (f := fun _ => #[v, v]) (t' := s₁.toks) (its' := [v, v]) (ys := [y, y]) e4 e1 rfl (.cons ry (.cons ry .nil)) (len2 y)
        exact wpAny_pure ⟨plainId_quiet F.plain_min_loop _, again _ _ _ rfl I2 upd_same fun s' J r => by
          have q := k s' J r
          cases n with
          | zero => exact ⟨fun _ => q, fun m e => by cases e⟩
          | succ m => exact ⟨fun e => (by cases e), fun m' e => (by cases e; exact q)⟩⟩
      · rw [e4] at e
        obtain rfl := HO.lst.inj (Option.some.inj e)
        have r : Vals [b, b] its := by simpa using r
        cases r with
        | cons r1 r2 =>
          cases r2 with
          | cons r3 r4 =>
            cases r4
            rename_i u1 u2
            obtain ⟨z, its1, n1, rv, hl', e1⟩ := I1.lstM e4
            obtain ⟨as1, rd1⟩ := Dp.reads I1 d y v h1 ry
            obtain ⟨as2, rd2⟩ := Dp.reads I1 db b u2 hb4 r3
            show wpAny _ A.in1 (tryCatch (holding [v, v] (richCompare .Lt v u2 >>= _)) _ >>= _) _ _ _
            refine wpAny_bind (wpAny_tryCatch (wpAny_holding (wpAny_bind (PySem.W.rcLt_alike d db A.in1 _ v u2 as1 as2 rd1 rd2 ha h2 (by have := Nat.min_le_left d.depth db.depth; omega) _ _ _ _ ?_))))
            refine wpAny_bind (wpAny_holding (wpAny_truthy_bool ?_))
            refine wpAny_bind (wpAny_letGo (wpAny_pure ?_))
            cases hb : dataLt d db with
            | true =>
              simp only [if_true]
              refine wpAny_bind ?_
              refine wpAny_updateSeq e1 rfl (wpAny_bind (wpAny_letGo ?_)) (by rw [List.size_toArray, ← rv.length]; exact z) (by show 2 ≤ sizeLine + 1; decide)
              rw [hname]
              have I2 := I1.lset (f := fun _ => #[v, v]) (t' := s₁.toks) (its' := [v, v]) (ys := [y, y]) e4 e1 rfl (.cons ry (.cons ry .nil)) (len2 y)
              exact wpAny_pure ⟨plainId_quiet F.plain_min_loop _, again _ _ _ rfl I2 upd_same fun s' J r => by
                have q := k1 hb s' J r
                cases n with
                | zero => exact ⟨fun _ => q, fun m e => by cases e⟩
                | succ m => exact ⟨fun e => (by cases e), fun m' e => (by cases e; exact q)⟩⟩
            | false =>
              simp only [Bool.false_eq_true, if_false]
              refine wpAny_bind (wpAny_letGo ?_)
              rw [hname]
              exact wpAny_pure ⟨plainId_quiet F.plain_min_loop _, again _ _ _ rfl I1 e4 fun s' J r => by
                have q := k2 hb s' J r
                cases n with
                | zero => exact ⟨fun _ => q, fun m e => by cases e⟩
                | succ m => exact ⟨fun e => (by cases e), fun m' e => (by cases e; exact q)⟩⟩
    · obtain ⟨σ', H', I, q, rr⟩ := hp
      obtain ⟨xs, e, r⟩ := rr _ _ e0'
      obtain ⟨b, eb⟩ := hQ _ q
      rw [eb] at e
      obtain rfl := HO.lst.inj (Option.some.inj e)
      have I1 := ((like_setGen (g := g) (x := .finished) I.bare rfl).inv I).kept (t' := s₁.toks) hk
      have r : Vals [b, b] its := by simpa using r
      cases r with
      | cons r1 r2 =>
        cases r2 with
        | cons r3 r4 =>
          cases r4
          rename_i u1 u2
          obtain ⟨z, its1, n1, rv, hl', e1⟩ := I1.lstM eb
          show wpAny _ A.in1 (updateSeq S (fun _ => #[]) >>= _) _ _ _
          refine wpAny_bind ?_
          refine wpAny_updateSeq e1 rfl ?_ (by rw [List.size_toArray, ← rv.length]; exact z) (Nat.zero_le _)
          refine wpAny_bind (wpAny_letGo (wpAny_pure ?_))
          exact hR b u1 σ' H' _ (I1.lset (f := fun _ => #[]) (t' := s₁.toks) (its' := []) (ys := []) eb e1 rfl .nil (Nat.zero_le _)) q eb r1
  intro n
  induction n with
  | zero => exact step 0 fun m e => by cases e
  | succ n ih => exact step (n + 1) fun m e => by cases e; exact ih
end
end Gx
end Text_Gi
section Text_Gj
set_option Elab.async false
set_option linter.all false
set_option maxRecDepth 100000
set_option maxHeartbeats 4000000
namespace Gx
open PySem PySem.Spec PyProof.Rows L2 GxR
def rdM (K : PySem.W.Frag) (g : TG) (tt : TT) (te : Value → TE) (vs : List Nat) (σ : L2.St) (Q : VK) : It → Value → Hp → Prop := fun J cd H2 => ∀ S, H2 S = none → ∃ W : Nat → Nat → Hp → Prop, (∃ m, W 0 m (upd H2 S (.lst []))) ∧
  TurnK J g tt (te cd) vs (wipe σ vs) (cK K S) (fK S) (fun H => ∃ b, H S = some (.lst [b, b]) ∧ Q b (upd H S (.lst []))) W
/-- min of a generator expression of alike data: its list at S stays behind, nobody's -/
def tMinC (K : PySem.W.Frag) (Pre : Hp → Prop) (Post : Hp → Hp → Value → Prop) (wi : TI) (g : TG) (tt : TT) (te : Value → TE) (vs : List Nat) : TE := fun σ H Q => wi σ H fun J H1 => Pre H1 ∧ ∀ H2 cd, Post H1 H2 cd → rdM K g tt te vs σ Q J cd H2
section
variable {X : Cx}
theorem pe_minC {elt tg iter : Expr} {ifs : List Expr} {scope : Scope} {own : List (Str × Nat)} {pos gpos p : Pos} {wi : TI} {g : TG} {tt : TT} {te : Value → TE} {k : Nat} {Pre : Hp → Prop} {Post : Hp → Hp → Value → Prop}
    (hr : Room (k + 1) X.A) (hgl : Gl X "min") (hm : X.mg "min" = none) (bm : ∃ P, X.base.BuiltinsAt X.mg P) (mk : MkC X gpos (X.env.qual ++ "<genexpr>") scope Pre Post) (hN : X.N.Nodup) (ok : GOkC X.N X.env.scope scope own) (hi : PI X tg iter wi)
    (pp : Parts X k scope tg ifs elt g tt te) (hs : ∀ v, genFold iter X.env v = pure v := by intro _; rfl)
    (hst : starEach [.GeneratorExp elt [⟨tg, iter, ifs, 0⟩] scope gpos] X.env = (false, eval (.GeneratorExp elt [⟨tg, iter, ifs, 0⟩] scope gpos) X.env) :: starEach [] X.env := by rfl) :
    PE X (.Call (.Name "min" p) [.GeneratorExp elt [⟨tg, iter, ifs, 0⟩] scope gpos] [] pos) (tMinC X.K Pre Post wi g tt te (own.map (·.2))) := by
  refine ⟨fun pins s σ H Q I h => ?_⟩
  have hname : (toString "min" ++ toString ".loop" : String) = "min.loop" := by decide
  refine wpAny_Call_Name_kw (ld_blt I hgl hm (show bootBuiltins "min" = some (.builtin "min") by decide +kernel) ?_)
  refine PyProof.Rows.callWith_builtin1 ?_ hst (by rfl)
  rw [hst]
  show wpAny _ _ (spliced ((false, eval (.GeneratorExp elt [⟨tg, iter, ifs, 0⟩] scope gpos) X.env) :: backTo pos (starEach [] X.env))) _ _ s
  refine Calls.spliced_cons (gen_madeC (Rd := rdM X.K g tt te (own.map fun q : Str × Nat => q.2) σ Q) (by have := hr.dp; omega) (Inn.two hr) bm mk hN ok hi pp hs I h fun Z ga gn cd code J H4 s5 hp hw hK isg hgs hlt I5 hI back rd go => ?_)
  refine Calls.spliced_nil ?_
  refine call_function_tree F.kind_min F.plain_min F.entry_min (F.args_min1 _) ?_
  show wpAny _ X.A.in1 (Builtin.Builtins.bindParams "min" ["key", "default"] 0 ⟨[], []⟩ >>= _) _ _ s5
  refine wpAny_bind (wpAny_of_eq (show Builtin.Builtins.bindParams "min" ["key", "default"] 0 ⟨[], []⟩ = pure [none, none] from rfl) ?_)
  refine wpAny_bind (wpAny_pure ?_)
  refine wpAny_bind (wpAny_pyIter_gen isg ?_)
  refine wpAny_bind (wpAny_newObj_type ?_)
  rw [hname]
  rw [← hp, ← hw] at *
  have hS : H4 s5.heap.objs.size = none := I5.hok.fresh (Nat.le_refl _)
  obtain ⟨W, ⟨m, w0⟩, hW⟩ := rd _ hS
  rw [← hK] at hW
  have kp1 : ∀ b o, s5.heap.get? b = some o → (s5.heap.push { cls := .type "list", data := .seq ([] : List Value).toArray }).get? b = some o := fun b o e => Heap.get?_push_of_some _ e
  have I6 := I5.laid (o := .lst []) (t' := s5.toks) kp1 (Nat.le_refl _) ⟨Nat.zero_le _, [], _, .nil, Heap.get?_push_size _ rfl⟩
  have I7 := (like_setGen (g := gn) (x := .running) I6.bare rfl).inv I6
  refine wpAny_pure ⟨plainId_quiet F.plain_min_loop _, ?_⟩
  refine min_turnsV (Z := Z) (A := X.A) (S := s5.heap.objs.size) hr.hd (by have := hr.dp; omega) (by have := hr.un; show X.A.units + 1 + 20 < _; omega) hI (fun b v σ' H' s' J q e r => ?_) (fun H' q => let ⟨b, e, _⟩ := q; ⟨b, e⟩) (m + 1) _
    ⟨_, [], _, _, [], I6, upd_same, hgs, go m (m + 1) (cK_keeps _ _) hW (Nat.le_refl _) _ _ I7 w0 (fun b o e _ => kp1 b o e) (fun b hb e => by rw [upd_ne (Nat.ne_of_lt hb)]; exact e) (rS_of I7 upd_same)⟩
  obtain ⟨b', e', q⟩ := q
  rw [e] at e'
  have eb := HO.lst.inj (Option.some.inj e')
  simp at eb
  subst eb
  exact ⟨b, _, back J, r, q⟩
end
end Gx
end Text_Gj
section Text_Gk
set_option Elab.async false
set_option linter.all false
set_option maxRecDepth 100000
set_option maxHeartbeats 4000000
/-! Gk: dict comprehensions of two clauses. -/
namespace Gx
open PySem PySem.Spec PyProof.Rows L2 GxR
theorem cTurnD_out (kx vx t0 i0 t1 i1 : Expr) (ifs0 ifs1 : List Expr) (scp : Scope) (pos : Pos) (it : Value) (D : Addr) (env : Env) :
    compTurn (.DictComp kx vx [⟨t0, i0, ifs0, 0⟩, ⟨t1, i1, ifs1, 0⟩] scp pos) 0 it (.ref D) env = (do
      standAt i0.pos
      match ← pyNext it with
      | none => pure (.done .next)
      | some v =>
        letOwnedTupleGo t0 it v
        assign t0 env v
        let mut ok := true
        for c in ifs0 do
          if ok then ok ← isTrue c env (eval c env)
        if ok then
          let x ← eval i1 env
          standAt i1.pos
          let x ← foldedSetIterable i1 env x
          let _ ← runOwn (.compStart (.DictComp kx vx [⟨t0, i0, ifs0, 0⟩, ⟨t1, i1, ifs1, 0⟩] scp pos) 1 (← holding [x] (pyIter x)) (.ref D) env) env
        again (.compLoop (.DictComp kx vx [⟨t0, i0, ifs0, 0⟩, ⟨t1, i1, ifs1, 0⟩] scp pos) 0 it (.ref D) env)) := by rfl
theorem cTurnD_in (kx vx t0 i0 t1 i1 : Expr) (ifs0 ifs1 : List Expr) (scp : Scope) (pos : Pos) (it : Value) (D : Addr) (env : Env) :
    compTurn (.DictComp kx vx [⟨t0, i0, ifs0, 0⟩, ⟨t1, i1, ifs1, 0⟩] scp pos) 1 it (.ref D) env = (do
      standAt i1.pos
      match ← pyNext it with
      | none => pure (.done .next)
      | some v =>
        letOwnedTupleGo t1 it v
        assign t1 env v
        let mut ok := true
        for c in ifs1 do
          if ok then ok ← isTrue c env (eval c env)
        if ok then
          (do let kv ← eval kx env; let vv ← holding [kv] (eval vx env); standAt { kx.pos with endLine := vx.pos.endLine, endCol := vx.pos.endCol }; holding [kv, vv] (dictSet D kv vv))
        again (.compLoop (.DictComp kx vx [⟨t0, i0, ifs0, 0⟩, ⟨t1, i1, ifs1, 0⟩] scp pos) 1 it (.ref D) env)) := by rfl

section
variable {prog : Program} {w : World} {A : Around} {R : Result → Shared → Prop} {s : Shared} {kx vx t0 i0 t1 i1 : Expr} {ifs0 ifs1 : List Expr} {scp : Scope} {pos : Pos} {it : Value} {D : Addr} {env : Env}
theorem cLoopD_out (hs : ∀ x, foldedSetIterable i1 env x = pure x) (I : Nat → Shared → Prop)
    (turn : ∀ n s, I n s → wpAny (model prog w) A (pyNext it) (fun r sg₁ => match r with
      | none => R (.ok .next) sg₁
      | some v => wpAny (model prog w) A (letOwnedTupleGo t0 it v) (fun _ sg₁' => wpAny (model prog w) A (assign t0 env v) (fun _ sg₂ =>
          wpAny (model prog w) A (forIn ifs0 true fun c r => if r = true then do let ok ← isTrue c env (eval c env); pure (ForInStep.yield ok) else pure (ForInStep.yield r)) (fun ok sg₃ =>
            if ok = true then wpAny (model prog w) A (eval i1 env) (fun x sg₄ => wpAny (model prog w) A (pyIter x) (fun it1 sg₅ =>
              codeAny (model prog w) A (.compStart (.DictComp kx vx [⟨t0, i0, ifs0, 0⟩, ⟨t1, i1, ifs1, 0⟩] scp pos) 1 it1 (.ref D) env) (fun r s' => match r with
                | .ok _ => ∃ m, m < n ∧ I m s'
                | .error _ => False) sg₅) (notedBy (model prog w) A env fun e s' => R (.error e) s') sg₄) (notedBy (model prog w) A env fun e s' => R (.error e) s') sg₃
            else ∃ m, m < n ∧ I m sg₃) (notedBy (model prog w) A env fun e s' => R (.error e) s') sg₂) (notedBy (model prog w) A env fun e s' => R (.error e) s') sg₁') (notedBy (model prog w) A env fun e s' => R (.error e) s') sg₁) (notedBy (model prog w) A env fun e s' => R (.error e) s') s)
    (n : Nat) (h : I n s) :
    codeAny (model prog w) A (.compLoop (.DictComp kx vx [⟨t0, i0, ifs0, 0⟩, ⟨t1, i1, ifs1, 0⟩] scp pos) 0 it (.ref D) env) R s := by
  refine codeAny_loop rfl I (fun n s hI => ?_) n h
  show wpAny _ A ((compTurn (.DictComp kx vx [⟨t0, i0, ifs0, 0⟩, ⟨t1, i1, ifs1, 0⟩] scp pos) 0 it (.ref D) env).onRaise (fun x => do noteFrame x env; theTreesLotGoes x)) _ _ s
  refine wpAny_noted ?_
  rw [cTurnD_out]
  refine wpAny_bind (wpAny_standAt (wpAny_bind (wpAny_mono (turn n s hI) (fun r sg₁ hh₁ => ?_) fun _ _ h' => h')))
  cases r with
  | none => exact wpAny_pure hh₁
  | some v =>
    refine wpAny_bind (wpAny_mono hh₁ (fun _ sg₁' hh₁' => ?_) fun _ _ h' => h')
    refine wpAny_bind (wpAny_mono hh₁' (fun _ sg₂ hh₂ => wpAny_bind (wpAny_mono hh₂ (fun ok sg₃ hh₃ => ?_) fun _ _ h' => h')) fun _ _ h' => h')
    cases ok with
    | false => exact wpAny_pure ⟨rfl, hh₃⟩
    | true =>
      refine wpAny_bind (wpAny_mono hh₃ (fun x sg₄ hh₄ => ?_) fun _ _ h' => h')
      refine wpAny_bind (wpAny_standAt (wpAny_bind (wpAny_of_eq (hs x) (wpAny_bind (wpAny_holding (wpAny_mono hh₄ (fun it1 sg₅ hh₅ => ?_) fun _ _ h' => h'))))))
      refine wpAny_bind (wpAny_runOwn ?_)
      rw [Around.mark_none]
      refine codeAny_mono hh₅ fun r s' hr => ?_
      cases r with
      | ok f =>
        first
          | exact wpAny_pure ⟨rfl, hr⟩
          | exact wpAny_bind (wpAny_pure (wpAny_pure ⟨rfl, hr⟩))
      | error e => exact hr.elim
theorem cLoopD_in (I : Nat → Shared → Prop)
    (turn : ∀ n s, I n s → wpAny (model prog w) A (pyNext it) (fun r sg₁ => match r with
      | none => R (.ok .next) sg₁
      | some v => wpAny (model prog w) A (letOwnedTupleGo t1 it v) (fun _ sg₁' => wpAny (model prog w) A (assign t1 env v) (fun _ sg₂ =>
          wpAny (model prog w) A (forIn ifs1 true fun c r => if r = true then do let ok ← isTrue c env (eval c env); pure (ForInStep.yield ok) else pure (ForInStep.yield r)) (fun ok sg₃ =>
            if ok = true then wpAny (model prog w) A (eval kx env) (fun kv sg₄ => wpAny (model prog w) A (eval vx env) (fun vv sg₅ =>
              wpAny (model prog w) A (dictSet D kv vv) (fun _ sg₆ => ∃ m, m < n ∧ I m sg₆) (notedBy (model prog w) A env fun e s' => R (.error e) s') sg₅) (notedBy (model prog w) A env fun e s' => R (.error e) s') sg₄) (notedBy (model prog w) A env fun e s' => R (.error e) s') sg₃
            else ∃ m, m < n ∧ I m sg₃) (notedBy (model prog w) A env fun e s' => R (.error e) s') sg₂) (notedBy (model prog w) A env fun e s' => R (.error e) s') sg₁') (notedBy (model prog w) A env fun e s' => R (.error e) s') sg₁) (notedBy (model prog w) A env fun e s' => R (.error e) s') s)
    (n : Nat) (h : I n s) :
    codeAny (model prog w) A (.compLoop (.DictComp kx vx [⟨t0, i0, ifs0, 0⟩, ⟨t1, i1, ifs1, 0⟩] scp pos) 1 it (.ref D) env) R s := by
  refine codeAny_loop rfl I (fun n s hI => ?_) n h
  show wpAny _ A ((compTurn (.DictComp kx vx [⟨t0, i0, ifs0, 0⟩, ⟨t1, i1, ifs1, 0⟩] scp pos) 1 it (.ref D) env).onRaise (fun x => do noteFrame x env; theTreesLotGoes x)) _ _ s
  refine wpAny_noted ?_
  rw [cTurnD_in]
  refine wpAny_bind (wpAny_standAt (wpAny_bind (wpAny_mono (turn n s hI) (fun r sg₁ hh₁ => ?_) fun _ _ h' => h')))
  cases r with
  | none => exact wpAny_pure hh₁
  | some v =>
    refine wpAny_bind (wpAny_mono hh₁ (fun _ sg₁' hh₁' => ?_) fun _ _ h' => h')
    refine wpAny_bind (wpAny_mono hh₁' (fun _ sg₂ hh₂ => wpAny_bind (wpAny_mono hh₂ (fun ok sg₃ hh₃ => ?_) fun _ _ h' => h')) fun _ _ h' => h')
    cases ok with
    | false => exact wpAny_pure ⟨rfl, hh₃⟩
    | true =>
      exact wpAny_bind (wpAny_bind (wpAny_mono hh₃ (fun kv sg₄ hh₄ => wpAny_bind (wpAny_holding (wpAny_mono hh₄ (fun vv sg₅ hh₅ => wpAny_bind (wpAny_standAt (wpAny_holding (wpAny_mono hh₅ (fun _ sg₆ hh₆ => wpAny_pure ⟨rfl, hh₆⟩) fun _ _ h' => h')))) fun _ _ h' => h'))) fun _ _ h' => h'))
theorem cStartD_ok (h0 : codeAny (model prog w) A (.compLoop (.DictComp kx vx [⟨t0, i0, ifs0, 0⟩, ⟨t1, i1, ifs1, 0⟩] scp pos) 1 it (.ref D) env) R s)
    (h : wpAny (model prog w) A (pyIter it) (fun it' s' => codeAny (model prog w) A (.compLoop (.DictComp kx vx [⟨t0, i0, ifs0, 0⟩, ⟨t1, i1, ifs1, 0⟩] scp pos) 1 it' (.ref D) env) R s')
      (notedBy (model prog w) A env fun x s' => R (.error x) s') s) :
    codeAny (model prog w) A (.compStart (.DictComp kx vx [⟨t0, i0, ifs0, 0⟩, ⟨t1, i1, ifs1, 0⟩] scp pos) 1 it (.ref D) env) R s := by
  refine codeAny_of_tree ?_
  show wpAny _ _ ((compStart (.DictComp kx vx [⟨t0, i0, ifs0, 0⟩, ⟨t1, i1, ifs1, 0⟩] scp pos) 1 it (.ref D) env).onRaise (fun x => do noteFrame x env; standAt theWindowsPlace)) _ _ s
  refine wpAny_notedAt ?_
  unfold compStart
  show wpAny _ _ (ask >>= _) _ _ s
  refine wpAny_bind (wpAny_askSetting (wpAny_ite ?_))
  split
  · first
      | exact wpAny_bind (wpAny_pure (wpAny_pure (And.intro rfl h0)))
      | exact wpAny_pure (And.intro rfl h0)
  · first
      | exact wpAny_bind (wpAny_rule (wpAny_bind (wpAny_standAt (wpAny_bind (wpAny_mono h (fun it' s' h' => wpAny_pure (And.intro rfl h')) fun _ _ x => x)))))
      | (refine wpAny_bind (wpAny_rule ?_); show wpAny _ _ (standAt i1.pos >>= _) _ _ s; exact wpAny_bind (wpAny_standAt (wpAny_bind (wpAny_mono h (fun it' s' h' => wpAny_pure (And.intro rfl h')) fun _ _ x => x))))
end

section
variable {X : Cx}
def tDc2 (wi : TI) (g : TG) (tt : TT) (wi1 : TI) (g1 : TG) (tt1 : TT) (tk tv : TE) (vs vs1 : List Nat) : TE := fun σ H Q => wi σ H fun J hp1 => ∀ D, hp1 D = none → ∃ W : Nat → Nat → Hp → Prop, (∃ m, W 0 m (upd hp1 D (.dK []))) ∧ ∀ i m H, W i m H →
  (J.stop i H ∧ Q (.ref D) H) ∨ (J.go i H ∧ ∃ Nx : Hp → Prop, (∀ H', Nx H' → ∃ m', m' < m ∧ W (i + 1) m' H') ∧ ∀ x H', J.yld i H x H' → g x (wipe σ vs) H' fun σ2 hp2 => wipe σ2 vs = wipe σ vs ∧ tt σ2 hp2 fun b hp3 =>
    if b = true then wi1 σ2 hp3 fun J1 hp4 => ∃ W1 : Nat → Nat → Hp → Prop, (∃ m, W1 0 m hp4) ∧ ∀ j k H, W1 j k H →
      (J1.stop j H ∧ Nx H) ∨ (J1.go j H ∧ ∃ Nx1 : Hp → Prop, (∀ H', Nx1 H' → ∃ k', k' < k ∧ W1 (j + 1) k' H') ∧ ∀ x H', J1.yld j H x H' → g1 x (wipe σ2 vs1) H' fun σ3 hp5 => wipe σ3 vs1 = wipe σ2 vs1 ∧ tt1 σ3 hp5 fun b hp6 =>
        if b = true then tk σ3 hp6 fun y hp7 => tv σ3 hp7 fun z hp8 => ∃ kvs k, y = kV k ∧ hp8 D = some (.dK kvs) ∧ kvs.length < sizeLine ∧ Nx1 (upd hp8 D (.dK (putK kvs k z))) else Nx1 hp6)
    else Nx hp3)
theorem dc2_core {pns : List (Addr × Obj)} {s : Shared} {σ : L2.St} {H : Hp} {Q : VK} {kx vx tg iter tg1 iter1 : Expr} {tst ifs1 : List Expr} {scp : Scope} {own : List (Str × Nat)} {vs1 : List Nat} {pos pos' : Pos} {wi wi1 : TI} {g g1 : TG} {tt tt1 : TT} {tk tv : TE} {use : Option (Value → Sem Unit)} {Qf : Value → Shared → Prop}
    (hc : X.calm = true) (hN : X.N.Nodup) (I : Inv X pns σ H s) (hi : PI X tg iter wi) (ok : BlkOk X.N X.env.scope scp own) (hv : ∀ i ∈ vs1, i ∈ own.map (·.2))
    (hg : ∀ (s : Shared) (H : Hp) (C : Addr) (cl : List (Str × Addr)) (fp : List Addr), PG (X.blk s H scp (compEnvC scp cl C X.env) fp) tg g) (ht : ∀ (s : Shared) (H : Hp) (C : Addr) (cl : List (Str × Addr)) (fp : List Addr), PTs (X.blk s H scp (compEnvC scp cl C X.env) fp) tst tt)
    (hk : ∀ (s : Shared) (H : Hp) (C : Addr) (cl : List (Str × Addr)) (fp : List Addr), PE (X.blk s H scp (compEnvC scp cl C X.env) fp) kx tk) (he : ∀ (s : Shared) (H : Hp) (C : Addr) (cl : List (Str × Addr)) (fp : List Addr), PE (X.blk s H scp (compEnvC scp cl C X.env) fp) vx tv) (hs : ∀ x, foldedSetIterable iter X.env x = pure x)
    (hi1 : ∀ (s : Shared) (H : Hp) (C : Addr) (cl : List (Str × Addr)) (fp : List Addr), PI (X.blk s H scp (compEnvC scp cl C X.env) fp) tg1 iter1 wi1)
    (hg1 : ∀ (s : Shared) (H : Hp) (C : Addr) (cl : List (Str × Addr)) (fp : List Addr), PG (X.blk s H scp (compEnvC scp cl C X.env) fp) tg1 g1)
    (ht1 : ∀ (s : Shared) (H : Hp) (C : Addr) (cl : List (Str × Addr)) (fp : List Addr), PTs (X.blk s H scp (compEnvC scp cl C X.env) fp) ifs1 tt1)
    (hs1 : ∀ env x, foldedSetIterable iter1 env x = pure x)
    (h : tDc2 wi g tt wi1 g1 tt1 tk tv (own.map (·.2)) vs1 σ H Q)
    (hRR : ∀ D C s' m H', Inv X pns σ H' s' → Q (.ref D) H' → s'.heap.Ns C m → FpOk X pns H' C → compPost (model X.prog X.w) X.A X.xe use Qf (.ref D) C (.ok .next) s') :
    wpAny (model X.prog X.w) X.A (comprehension (.DictComp kx vx [⟨tg, iter, tst, 0⟩, ⟨tg1, iter1, ifs1, 0⟩] scp pos) scp X.env pos' (newDict) false (eval iter X.env) use) Qf X.xe s := by
  have hfree : ∀ y ∈ scp.names, y.2 = .free → ∃ c, X.env.cells.lookup y.1 = some c := fun y hy e => by
    rcases ok.free y hy e with k | k
    · exact I.ok.has _ (.inl k)
    · exact I.ok.has _ (.inr k)
  refine wpAny_comprehension_free (use := use) rfl hs (closure_ok hfree) ok.kind (fun y hy e => by rw [ok.uniq y hy, e])
    (thn (hi.run pns s σ H _ I h) fun xv sh1 hx => thn hx fun itv sh2 h2 => ?_)
  obtain ⟨it, fp, tn, J, hp2, e, iv2, T, sta2, f2, q⟩ := h2
  subst e
  refine wpAny_newObj_type (newEnv_comp ?_)
  generalize hD : sh2.heap.objs.size = D
  have hDn : hp2 D = none := iv2.hok.fresh (Nat.le_of_eq hD)
  obtain ⟨W, ⟨m0, w0⟩, turn⟩ := q D hDn
  -- the new list
  generalize hs3 : ({ sh2 with heap := sh2.heap.push { cls := .type "dict", data := .dict #[] } } : Shared) = sh3
  have iv3 : Inv X pns σ (upd hp2 D (.dK [])) sh3 := by
    rw [← hs3]
    refine iv2.laid (t' := sh2.toks) (fun b o e => Heap.get?_push_of_some _ e) (Nat.le_of_eq hD) ?_
    rw [← hD]
    exact dk_empty sh2.heap iv2.big
  have h3 : sh3.heap = sh2.heap.push { cls := .type "dict", data := .dict #[] } := by rw [← hs3]
  have sz : ∀ b ∈ fp, b < sh2.heap.objs.size := fun b hb => by
    obtain ⟨o, e, _⟩ := T.obj _ _ sta2 b hb
    exact Heap.lt_size e
  have f3 : ∀ b ∈ fp, FpOk X pns (upd hp2 D (.dK [])) b ∧ b < sh3.heap.objs.size := fun b hb => by
    have hlt := sz b hb
    refine ⟨⟨?_, (f2 b hb).2⟩, by rw [h3, Heap.size_push]; exact Nat.lt_succ_of_lt hlt⟩
    rw [upd_ne (by rw [← hD]; exact Nat.ne_of_lt hlt)]
    exact (f2 b hb).1
  have sta3 : tn 0 sh3.heap := T.keep _ _ _ sta2 fun b _ o e => by rw [h3]; exact Heap.get?_push_of_some _ e
  have iv4 := block_start iv3 ok hN f3
  have pg := hg sh3 (upd hp2 D (.dK [])) sh3.heap.objs.size (cellsFrom (sh3.heap.objs.size + 1) scp.names (cloFrom X.env.cells scp.names [])) fp
  have pt := ht sh3 (upd hp2 D (.dK [])) sh3.heap.objs.size (cellsFrom (sh3.heap.objs.size + 1) scp.names (cloFrom X.env.cells scp.names [])) fp
  have pk := hk sh3 (upd hp2 D (.dK [])) sh3.heap.objs.size (cellsFrom (sh3.heap.objs.size + 1) scp.names (cloFrom X.env.cells scp.names [])) fp
  have pe := he sh3 (upd hp2 D (.dK [])) sh3.heap.objs.size (cellsFrom (sh3.heap.objs.size + 1) scp.names (cloFrom X.env.cells scp.names [])) fp
  have pi1 := hi1 sh3 (upd hp2 D (.dK [])) sh3.heap.objs.size (cellsFrom (sh3.heap.objs.size + 1) scp.names (cloFrom X.env.cells scp.names [])) fp
  have pg1 := hg1 sh3 (upd hp2 D (.dK [])) sh3.heap.objs.size (cellsFrom (sh3.heap.objs.size + 1) scp.names (cloFrom X.env.cells scp.names [])) fp
  have pt1 := ht1 sh3 (upd hp2 D (.dK [])) sh3.heap.objs.size (cellsFrom (sh3.heap.objs.size + 1) scp.names (cloFrom X.env.cells scp.names [])) fp
  show codeAny _ _ (.compStart (.DictComp kx vx [⟨tg, iter, tst, 0⟩, ⟨tg1, iter1, ifs1, 0⟩] scp pos) 0 (.ref it) (.ref D) (compEnvC scp (cellsFrom (sh3.heap.objs.size + 1) scp.names (cloFrom X.env.cells scp.names [])) sh3.heap.objs.size X.env)) (compPost (model X.prog X.w) X.A X.xe use Qf (.ref D) sh3.heap.objs.size) { sh3 with heap := pushCells (sh3.heap.push { cls := .type "dict", data := .dict #[] }) scp.names }
  have nfp : ∀ b ∈ fp, (upd hp2 D (.dK [])) b = none := fun b hb => (f3 b hb).1.1
  generalize hce : compEnvC scp (cellsFrom (sh3.heap.objs.size + 1) scp.names (cloFrom X.env.cells scp.names [])) sh3.heap.objs.size X.env = ce at iv4 pg pt pk pe pi1 pg1 pt1 ⊢
  have cL : ce.locals = sh3.heap.objs.size := by subst hce; rfl
  generalize hH3 : upd hp2 D (.dK []) = hp3 at iv3 iv4 pg pt pk pe pi1 pg1 pt1 w0 nfp f3
  generalize hs4 : ({ sh3 with heap := pushCells (sh3.heap.push { cls := .type "dict", data := .dict #[] }) scp.names } : Shared) = sh4 at iv4 ⊢
  have sta4 : tn 0 sh4.heap := T.keep _ _ _ sta3 fun b _ o e => by rw [← hs4]; exact pushCells_keeps _ _ _ _ (Heap.get?_push_of_some _ e)
  have stat : ∀ {σ' : L2.St} {H' : Hp} {s' : Shared}, Inv (X.blk sh3 hp3 scp ce fp) [] σ' H' s' → (∀ b ∈ fp, H' b = none) → ∀ b ∈ fp, FpOk (X.blk sh3 hp3 scp ce fp) [] H' b := fun {σ' H' s'} I' hn b hb =>
    ⟨hn b hb, (I'.ok.exf b hb).1, I'.ok.exfs b hb, .inl hb, fun x c e => (I'.ok.exf b hb).2 x c e, fun p hp => absurd (show p ∈ ([] : List (Addr × Obj)) ++ [] from hp) (by simp)⟩
  have loop : codeAny (model X.prog X.w) X.A (.compLoop (.DictComp kx vx [⟨tg, iter, tst, 0⟩, ⟨tg1, iter1, ifs1, 0⟩] scp pos) 0 (.ref it) (.ref D) ce) (compPost (model X.prog X.w) X.A X.xe use Qf (.ref D) sh3.heap.objs.size) sh4 := by
    refine cLoopD_out (hs1 ce) (fun n s' => ∃ i H', Inv (X.blk sh3 hp3 scp ce fp) [] (wipe σ (own.map (·.2))) H' s' ∧ tn i s'.heap ∧ (∀ b ∈ fp, H' b = none) ∧ W i n H') ?_ m0 ⟨0, hp3, iv4, sta4, nfp, w0⟩
    rintro n sh5 ⟨i, hp5, iv5, sta5, n5, w5⟩
    rcases turn i n hp5 w5 with ⟨stop, qq⟩ | ⟨go, Nx, hNx, step⟩
    · have td := T.done (X.blk sh3 hp3 scp ce fp) rfl rfl rfl hc i [] sh5 _ hp5 (fun _ _ => False) iv5 (stat iv5 n5) sta5 stop
      refine thnF td fun r sh6 ⟨hr, iv6⟩ => ?_
      subst hr
      -- back in the def's context
      have iv7 : Inv X pns σ hp5 sh6 := iv3.call' (ch := fp) iv6.os iv6.base iv6.hok iv6.bare fun b hb => ⟨(f3 b hb).1.2.2.2.1, (f3 b hb).1.2.1, (f3 b hb).1.2.2.2.2.1, (f3 b hb).1.2.2.2.2.2⟩
      have nC : hp5 sh3.heap.objs.size = none := by
        have z : hp5 ce.locals = none := iv6.free
        rw [cL] at z
        exact z
      obtain ⟨m, hn, _⟩ := iv6.loc
      have hn : sh6.heap.Ns ce.locals m := hn
      rw [cL] at hn
      exact hRR D sh3.heap.objs.size sh6 m hp5 iv7 qq hn (iv3.fpOk (Nat.le_refl _) nC)
    · have ti := T.item (X.blk sh3 hp3 scp ce fp) rfl rfl rfl hc i [] sh5 _ hp5 (fun _ _ => False) iv5 (stat iv5 n5) sta5 go
      refine thnF ti fun r sh6 ⟨u, hr, h6⟩ => ?_
      subst hr
      refine thnF h6 fun _ sh7 ⟨x, hp7, iv7, r7, y7, sta7, n7⟩ => ?_
      have iv7' := iv7.pinned (stat iv7 n7) (T.obj _ _ sta7)
      refine thnF (pg.run _ sh7 _ hp7 x u _ iv7' r7 (step x hp7 y7)) fun _ sh8 ⟨σ8, hp8, iv8, hw8, q8⟩ => ?_
      refine thnF (pt.run _ sh8 σ8 hp8 _ iv8 q8) fun b sh9 ⟨hp9, iv9, q9⟩ => ?_
      -- the turn's end, from any slots that know what the block knew at its start
      have fin : ∀ {σ9 : L2.St} {s' : Shared} {H' : Hp}, Inv (X.blk sh3 hp3 scp ce fp) ([] ++ pinsAt fp sh7.heap) σ9 H' s' → (wipe σ (own.map (·.2))).length = σ9.length → (∀ (j : Nat) v, (wipe σ (own.map (·.2)))[j]? = some (some v) → σ9[j]? = some (some v)) → Nx H' →
          ∃ m, m < n ∧ ∃ i H', Inv (X.blk sh3 hp3 scp ce fp) [] (wipe σ (own.map (·.2))) H' s' ∧ tn i s'.heap ∧ (∀ b ∈ fp, H' b = none) ∧ W i m H' := fun {σ9 s' H'} I' hl hk nx => by
        obtain ⟨m', hm, w'⟩ := hNx H' nx
        have pin' : ∀ b ∈ fp, ∀ o, sh7.heap.get? b = some o → s'.heap.get? b = some o ∧ H' b = none := fun b hb o e =>
          let z := I'.pin (b, o) (List.mem_append_right _ (List.mem_append_right _ (mem_pinsAt hb e)))
          ⟨z.1, z.2.1⟩
        refine ⟨m', hm, i + 1, H', (I'.unpinned (pins := [])).weak hl hk, T.keep _ _ _ sta7 fun b hb o e => (pin' b hb o e).1, fun b hb => ?_, w'⟩
        obtain ⟨o, e, _⟩ := T.obj _ _ sta7 b hb
        exact (pin' b hb o e).2
      have hl8 : (wipe σ (own.map (·.2))).length = σ8.length := by rw [← hw8, wipe_length]
      have hk8 : ∀ (j : Nat) v, (wipe σ (own.map (·.2)))[j]? = some (some v) → σ8[j]? = some (some v) := fun j v e => by
        rw [← hw8] at e
        exact (wipe_some e).1
      have hk9 : ∀ (j : Nat) v, (wipe σ (own.map (·.2)))[j]? = some (some v) → (wipe σ8 vs1)[j]? = some (some v) := fun j v e => by
        rw [← hw8] at e
        obtain ⟨e1, e2⟩ := wipe_some e
        rw [wipe_out fun z => e2 (hv j z)]
        exact e1
      cases b with
      | false =>
        simp only [Bool.false_eq_true, if_false] at q9 ⊢
        exact fin iv9 hl8 hk8 q9
      | true =>
        simp only [if_true] at q9 ⊢
        refine thnF (pi1.run _ sh9 σ8 hp9 _ iv9 q9) fun xv sh10 hx => thnF hx fun itv sh11 h11 => ?_
        obtain ⟨it1, fp1, tn1, J1, hp11, e1, iv11, T1, sta11, f11, W1, ⟨m1, w1⟩, turn1⟩ := h11
        subst e1
        -- the inner loop
        have stat1 : ∀ {H' : Hp}, (∀ b ∈ fp1, H' b = none) → ∀ b ∈ fp1, FpOk (X.blk sh3 hp3 scp ce fp) ([] ++ pinsAt fp sh7.heap) H' b := fun hn b hb => ⟨hn b hb, (f11 b hb).2⟩
        have loop1 : codeAny (model X.prog X.w) X.A (.compLoop (.DictComp kx vx [⟨tg, iter, tst, 0⟩, ⟨tg1, iter1, ifs1, 0⟩] scp pos) 1 (.ref it1) (.ref D) ce)
            (fun r s' => match r with
              | .ok _ => ∃ m, m < n ∧ ∃ i H', Inv (X.blk sh3 hp3 scp ce fp) [] (wipe σ (own.map (·.2))) H' s' ∧ tn i s'.heap ∧ (∀ b ∈ fp, H' b = none) ∧ W i m H'
              | .error _ => False) sh11 := by
          refine cLoopD_in (fun k s' => ∃ j H', Inv (X.blk sh3 hp3 scp ce fp) ([] ++ pinsAt fp sh7.heap) (wipe σ8 vs1) H' s' ∧ tn1 j s'.heap ∧ (∀ b ∈ fp1, H' b = none) ∧ W1 j k H') ?_ m1 ⟨0, hp11, iv11.weak (wipe_length _ _) (fun j v e => (wipe_some e).1), sta11, fun b hb => (f11 b hb).1, w1⟩
          rintro k sh12 ⟨j, hp12, iv12, sta12, n12, w12⟩
          rcases turn1 j k hp12 w12 with ⟨stop1, nx1⟩ | ⟨go1, Nx1, hNx1, step1⟩
          · refine thnF (T1.done (X.blk sh3 hp3 scp ce fp) rfl rfl rfl hc j _ sh12 (wipe σ8 vs1) hp12 (fun _ _ => False) iv12 (stat1 n12) sta12 stop1) fun r sh13 ⟨hr, iv13⟩ => ?_
            subst hr
            exact fin iv13 (hl8.trans (wipe_length σ8 vs1).symm) hk9 nx1
          · refine thnF (T1.item (X.blk sh3 hp3 scp ce fp) rfl rfl rfl hc j _ sh12 (wipe σ8 vs1) hp12 (fun _ _ => False) iv12 (stat1 n12) sta12 go1) fun r sh13 ⟨u1, hr, h13⟩ => ?_
            subst hr
            refine thnF h13 fun _ sh14 ⟨x1, hp14, iv14, r14, y14, sta14, n14⟩ => ?_
            have iv14' := iv14.pinned (stat1 n14) (T1.obj _ _ sta14)
            refine thnF (pg1.run _ sh14 (wipe σ8 vs1) hp14 x1 u1 _ iv14' r14 (step1 x1 hp14 y14)) fun _ sh15 ⟨σ15, hp15, iv15, hw15, q15⟩ => ?_
            refine thnF (pt1.run _ sh15 σ15 hp15 _ iv15 q15) fun b1 sh16 ⟨hp16, iv16, q16⟩ => ?_
            have fin1 : ∀ {s' : Shared} {H' : Hp}, Inv (X.blk sh3 hp3 scp ce fp) (([] ++ pinsAt fp sh7.heap) ++ pinsAt fp1 sh14.heap) σ15 H' s' → Nx1 H' → ∃ m, m < k ∧ ∃ j H', Inv (X.blk sh3 hp3 scp ce fp) ([] ++ pinsAt fp sh7.heap) (wipe σ8 vs1) H' s' ∧ tn1 j s'.heap ∧ (∀ b ∈ fp1, H' b = none) ∧ W1 j m H' := fun {s' H'} I' nx => by
              obtain ⟨m', hm, w'⟩ := hNx1 H' nx
              have pin' : ∀ b ∈ fp1, ∀ o, sh14.heap.get? b = some o → s'.heap.get? b = some o ∧ H' b = none := fun b hb o e =>
                let z := I'.pin (b, o) (List.mem_append_right _ (List.mem_append_right _ (mem_pinsAt hb e)))
                ⟨z.1, z.2.1⟩
              refine ⟨m', hm, j + 1, H', I'.unpinned.weak (by rw [← hw15, wipe_length]) (fun j v e => by rw [← hw15] at e; exact (wipe_some e).1), T1.keep _ _ _ sta14 fun b hb o e => (pin' b hb o e).1, fun b hb => ?_, w'⟩
              obtain ⟨o, e, _⟩ := T1.obj _ _ sta14 b hb
              exact (pin' b hb o e).2
            cases b1 with
            | false =>
              simp only [Bool.false_eq_true, if_false] at q16 ⊢
              exact fin1 iv16 q16
            | true =>
              simp only [if_true] at q16 ⊢
              refine thnF (pk.run _ sh16 σ15 hp16 _ iv16 q16) fun z sh17 ⟨yk, hp17, iv17, r17, q17⟩ => ?_
              refine thnF (pe.run _ sh17 σ15 hp17 _ iv17 q17) fun z2 sh18 ⟨yv, hp18, iv18, r18, kvs, k2, ek, hD18, hz18, nx⟩ => ?_
              subst ek
              exact d_dictSet (X := X.blk sh3 hp3 scp ce fp) iv18 hD18 hz18 r17 r18 fun sh19 iv19 => fin1 iv19 nx
        exact cStartD_ok loop1 (T1.self X.A 0 _ _ _ sta11 loop1)
  exact codeAny_compStart_dict loop (T.self X.A 0 _ _ _ sta4 loop)
theorem pe_dc2 {kx vx tg iter tg1 iter1 : Expr} {tst ifs1 : List Expr} {scp : Scope} {own : List (Str × Nat)} {vs1 : List Nat} {pos : Pos} {wi wi1 : TI} {g g1 : TG} {tt tt1 : TT} {tk tv : TE} (hc : X.calm = true) (hN : X.N.Nodup) (hi : PI X tg iter wi) (ok : BlkOk X.N X.env.scope scp own) (hv : ∀ i ∈ vs1, i ∈ own.map (·.2))
    (hg : ∀ (s : Shared) (H : Hp) (C : Addr) (cl : List (Str × Addr)) (fp : List Addr), PG (X.blk s H scp (compEnvC scp cl C X.env) fp) tg g) (ht : ∀ (s : Shared) (H : Hp) (C : Addr) (cl : List (Str × Addr)) (fp : List Addr), PTs (X.blk s H scp (compEnvC scp cl C X.env) fp) tst tt)
    (hi1 : ∀ (s : Shared) (H : Hp) (C : Addr) (cl : List (Str × Addr)) (fp : List Addr), PI (X.blk s H scp (compEnvC scp cl C X.env) fp) tg1 iter1 wi1)
    (hg1 : ∀ (s : Shared) (H : Hp) (C : Addr) (cl : List (Str × Addr)) (fp : List Addr), PG (X.blk s H scp (compEnvC scp cl C X.env) fp) tg1 g1) (ht1 : ∀ (s : Shared) (H : Hp) (C : Addr) (cl : List (Str × Addr)) (fp : List Addr), PTs (X.blk s H scp (compEnvC scp cl C X.env) fp) ifs1 tt1)
    (hk : ∀ (s : Shared) (H : Hp) (C : Addr) (cl : List (Str × Addr)) (fp : List Addr), PE (X.blk s H scp (compEnvC scp cl C X.env) fp) kx tk) (he : ∀ (s : Shared) (H : Hp) (C : Addr) (cl : List (Str × Addr)) (fp : List Addr), PE (X.blk s H scp (compEnvC scp cl C X.env) fp) vx tv) (hs : ∀ x, foldedSetIterable iter X.env x = pure x := by intro _; rfl) (hs1 : ∀ env x, foldedSetIterable iter1 env x = pure x := by intro _ _; rfl) :
    PE X (.DictComp kx vx [⟨tg, iter, tst, 0⟩, ⟨tg1, iter1, ifs1, 0⟩] scp pos) (tDc2 wi g tt wi1 g1 tt1 tk tv (own.map (·.2)) vs1) := by
  refine ⟨fun pns s σ H Q I h => ?_⟩
  rw [arm_eval_DictComp]
  refine dc2_core hc hN I hi ok hv hg ht hk he hs hi1 hg1 ht1 hs1 h fun D C s' m H' I' q hn f => ⟨m, hn, fun h'' sb => ?_⟩
  obtain ⟨f0, f1, f2, f3, f4, f5⟩ := f
  exact ⟨.ref D, H', I'.turned (t' := s'.toks) (fun b o hb e => (sb.2 b hb).trans e) f0 f1 f3 f4 f5, rfl, q⟩

end
end Gx
end Text_Gk
section Text_Gm
set_option Elab.async false
set_option linter.all false
set_option maxRecDepth 100000
set_option maxHeartbeats 4000000
/-! Gm: lambdas without parameters that capture names, as values; handed to a def that calls them. -/
namespace LamZ
open PySem PySem.Spec PyProof.Rows L2 LamY
/-- at f stands a lambda of this text, with these cells; its code object is known -/
def LamC (H : Hp) (f : Addr) (q : Str) (params : Arguments) (body : Expr) (scope : Scope) (cl : List (Str × Addr)) : Prop :=
  ∃ pm c' ctv, H f = some (LamO f (PySem.W.kla_obj "<lambda>" q params body scope cl pm c' ctv)) ∧ H c' = some (LamX.CodeO c' q)
theorem lamO_ne {f : Addr} {ob : Obj} (ps : Array Value) : LamO f ob ≠ .tbl ps := fun z => by
  unfold LamO at z
  cases z
theorem LamC.ext {H H' : Hp} {f : Addr} {q : Str} {params : Arguments} {body : Expr} {scope : Scope} {cl : List (Str × Addr)} (l : LamC H f q params body scope cl) (e : LamX.ExtN H H') : LamC H' f q params body scope cl := by
  obtain ⟨pm, c', ctv, h1, h2⟩ := l
  exact ⟨pm, c', ctv, e _ _ h1 lamO_ne, e _ _ h2 LamX.codeO_ne⟩
/-- a lambda is made -/
def tLambC (P : Addr) (q : Str) (params : Arguments) (body : Expr) (scope : Scope) (cl : List (Str × Addr)) : TE := fun _ H Q => LamX.TabS H P q ∧ ∀ H1 f, But P H H1 → LamX.TabS H1 P q → LamC H1 f q params body scope cl → Q (.ref f) H1
section
variable {X : Cx} {pins : List (Addr × Obj)} {σ : L2.St} {H : Hp} {s : Shared}
theorem pe_lambdaC {c P : Addr} {params : Arguments} {body : Expr} {scope : Scope} {pos : Pos} (TB : LamX.TabB X.base X.mg c P) (hcode : X.env.code = .ref c) (hdef : defaultsOf params X.env = ([], []))
    (L : LamX.LamS X.env.scope scope) : PE X (.Lambda params body scope pos) (tLambC P (X.env.qual ++ "<lambda>") params body scope (cloFrom X.env.cells scope.names [])) := by
  refine ⟨fun pins s σ H Q I h => ?_⟩
  obtain ⟨hT, h⟩ := h
  obtain ⟨ps, hP, ht, ha⟩ := hT
  refine PySem.W.kla_eval hdef ?_
  have bP := TB.bm.keeps I.bk
  have tabP : s.heap.get? P = some { cls := .none, data := .fields ps } := I.hok P _ hP
  have hclo := L.has I.ok
  cases hc : codeAmong pos ps.toList with
  | none =>
    refine PySem.W.kla_makeFunction (mg := X.mg) (c := c) (P := P) (ps := ps) (closure_ok hclo) I.ok.glob (I.mod.glob.keeps I.bk) hcode (TB.code.keeps I.bk) tabP ht hc TB.gP bP ?_
    intro c' ctv h' tk hx hge hlt hrec htb
    obtain ⟨c2, oc, vs, t, e2, hoc, hd, hv⟩ := hrec
    cases e2
    have nC : H c' = none := I.hok.fresh hge
    have I1 := LamX.inv_table (t' := tk) (more := #[rawInt pos.line, rawInt pos.col, .ref c']) (h' := h') I hP (fun b o hb e => hx b o hb e) htb hge ⟨oc, vs, t, hoc, hd, hv⟩
    have fr1 := I1.hok.fresh (Nat.le_refl h'.objs.size)
    have I2 := I1.laid (a := h'.objs.size) (o := LamO h'.objs.size (PySem.W.kla_obj "<lambda>" (X.env.qual ++ "<lambda>") params body scope (cloFrom X.env.cells scope.names []) ((X.mg "__name__").getD .none) c' ctv))
      (h' := h'.push (PySem.W.kla_obj "<lambda>" (X.env.qual ++ "<lambda>") params body scope (cloFrom X.env.cells scope.names []) ((X.mg "__name__").getD .none) c' ctv)) (t' := tk) (fun b u e => Heap.get?_push_of_some _ e) (Nat.le_refl _) (lamO_ok (Heap.get?_push_size _ rfl))
    have but1 : But P H (upd (upd H P (.tbl (ps ++ #[rawInt pos.line, rawInt pos.col, .ref c']))) c' (LamX.CodeO c' (X.env.qual ++ "<lambda>"))) := fun b o hb e => by
      rw [upd_ne (ne_of_none e nC), upd_ne hb]
      exact e
    have up : ∀ b o, (upd (upd H P (.tbl (ps ++ #[rawInt pos.line, rawInt pos.col, .ref c']))) c' (LamX.CodeO c' (X.env.qual ++ "<lambda>"))) b = some o → ∀ u, upd (upd (upd H P (.tbl (ps ++ #[rawInt pos.line, rawInt pos.col, .ref c']))) c' (LamX.CodeO c' (X.env.qual ++ "<lambda>"))) h'.objs.size u b = some o := fun b o e u => by
      rw [upd_ne (ne_of_none e fr1)]
      exact e
    have eL : (ps ++ #[rawInt pos.line, rawInt pos.col, .ref c']).toList = ps.toList ++ [rawInt pos.line, rawInt pos.col, .ref c'] := by simp
    have nPc : P ≠ c' := ne_of_none hP nC
    refine h _ _ (fun b o hb e => up b o (but1 b o hb e) _) ⟨_, up _ _ (by rw [upd_ne nPc, upd_same]) _, by rw [eL]; exact PySem.TriplesOk_snoc _ _ _ _ ht, fun p' cv hcv => ?_⟩ ⟨_, c', ctv, upd_same, up _ _ upd_same _⟩ |> fun q => ⟨.ref h'.objs.size, _, I2, rfl, q⟩
    rw [eL] at hcv
    rcases LamX.among_app _ ht hcv with z | z
    · obtain ⟨c0, e1, e2⟩ := ha p' cv z
      exact ⟨c0, e1, up _ _ (but1 _ _ (fun q => by rw [q, hP] at e2; exact LamX.codeO_ne _ (Option.some.inj e2).symm) e2) _⟩
    · exact ⟨c', z, up _ _ upd_same _⟩
  | some cv =>
    obtain ⟨c', e, hco⟩ := ha pos cv hc
    subst e
    refine PySem.W.kla_makeFunctionHit (mg := X.mg) (c := c) (P := P) (ps := ps) (closure_ok hclo) I.ok.glob (I.mod.glob.keeps I.bk) hcode (TB.code.keeps I.bk) tabP ht hc bP ?_
    intro ctv h' tk hx hsz
    have I2 := I.laid (a := h'.objs.size) (o := LamO h'.objs.size (PySem.W.kla_obj "<lambda>" (X.env.qual ++ "<lambda>") params body scope (cloFrom X.env.cells scope.names []) ((X.mg "__name__").getD .none) c' ctv))
      (h' := h'.push (PySem.W.kla_obj "<lambda>" (X.env.qual ++ "<lambda>") params body scope (cloFrom X.env.cells scope.names []) ((X.mg "__name__").getD .none) c' ctv)) (t' := tk) (fun b u e => Heap.get?_push_of_some _ (hx b u e)) hsz (lamO_ok (Heap.get?_push_size _ rfl))
    have fr1 := I.hok.fresh hsz
    have up : ∀ b o, H b = some o → ∀ u, upd H h'.objs.size u b = some o := fun b o e u => by
      rw [upd_ne (ne_of_none e fr1)]
      exact e
    refine ⟨.ref h'.objs.size, _, I2, rfl, h _ _ (fun b o _ e => up b o e _) ⟨ps, up _ _ hP _, ht, fun p' cv hcv => ?_⟩ ⟨_, c', ctv, upd_same, up _ _ hco _⟩⟩
    obtain ⟨c0, e1, e2⟩ := ha p' cv hcv
    exact ⟨c0, e1, up _ _ e2 _⟩

/-- x(), in the def that got the lambda: the lambda's object is tracked -/
theorem pe_actT {CXg : CXT} {Eg : XK} {Ng : List Str} {qg : Str} {sg : Scope} {g f c' : Addr} {cdg pm ctv : Value} {params : Arguments} {body : Expr} {scope : Scope} {k i : Nat} {a : Str} {pn : List (Addr × Obj)} {xe : Value → Shared → Prop} {W : WX} {E : XK} {tb : TE} {p1 p2 : Pos}
    (I : Inv X pins σ H s) (L : LamX.LamS X.env.scope scope)
    (hbind : bindArgs (PySem.W.kla_fn "<lambda>" (X.env.qual ++ "<lambda>") params body scope (cloFrom X.env.cells scope.names []) pm (.ref c') ctv) ⟨[], []⟩ = pure [])
    (tk : Takes ((cxOf CXg X.prog X.w X.K X.mg X.base Ng qg sg g cdg X.A X.stack s H Eg).tr pn xe) W) (hW : ∀ cls d σ' H', E cls d H' → W cls d σ' H') (hr : Room (k + 1) (X.A.deeper (envOfC qg sg s.heap.objs.size g cdg)))
    (hbody : ∀ (A : Around) (outer : List Env) (s : Shared) (H : Hp), Room k (A.deeper (LamX.lamEnv X scope s.heap.objs.size f c')) → PE (LamX.lamCx X A outer s H E scope f c') body tb)
    (hN : Ng[i]? = some a) (hv : Vis sg a) (hd : (a == ("__debug__" : Str)) = false := by decide) (hcd : (a == ("__classdict__" : Str)) = false := by decide) :
    PE ((cxOf CXg X.prog X.w X.K X.mg X.base Ng qg sg g cdg X.A X.stack s H Eg).tr pn xe) (.Call (.Name a p1) [] [] p2)
      (fun σ1 H1 Q => σ1[i]? = some (some (.ref f)) ∧ H1 c' = some (LamX.CodeO c' (X.env.qual ++ "<lambda>")) ∧ H1 f = some (LamO f (PySem.W.kla_obj "<lambda>" (X.env.qual ++ "<lambda>") params body scope (cloFrom X.env.cells scope.names []) pm c' ctv)) ∧ tb σ H1 Q) := by
  refine ⟨fun pins1 s0 σ1 H1 Q I0 h => ?_⟩
  obtain ⟨hs, hc, hl, ht⟩ := h
  refine wpAny_Call_Name_kw (thn ((pe_var (pos := p1) (i := i) hN hv hd hcd).run pins1 s0 σ1 H1 (fun v H2 => v = .ref f ∧ H2 = H1) I0 ⟨.ref f, hs, rfl, rfl⟩) fun u s1 ⟨v, H2, I1, r1, q1⟩ => ?_)
  obtain ⟨ev, eH⟩ := q1
  subst ev
  rw [eH] at I1
  obtain rfl : u = Value.ref f := r1
  have of1 := (I1.hok f _ hl).1
  refine PySem.W.callWith_F0 ⟨_, _, _, _, of1⟩ ?_
  have un : Un (frs X.stack) [] H H1 s.heap s1.heap := I1.base
  obtain ⟨⟨oc, vs, t, hoc, hdc, hvc⟩, _, _⟩ := I1.hok c' _ hc
  have rc : codeAny (model X.prog X.w) (X.A.deeper (envOfC qg sg s.heap.objs.size g cdg)) (.call (.ref f) ⟨[], []⟩) (CR (L2.CX X.prog X.w) (envOfC qg sg s.heap.objs.size g cdg :: X.stack) X.prog X.w H1 s1 Q E) s1 := by
    refine PySem.W.kla_callFunE hr.depth of1 rfl L.co L.gen rfl ⟨c', oc, vs, t, rfl, hoc, hdc, hvc⟩ ?_
    rw [hbind]
    refine wpAny_pure (wpAny_newFunctionEnv (fun y hy => (L.own y hy).2) (fun y hy => absurd hy (by simp)) (fun hx hns hsb => ⟨I1.nolimit.fresh _ hsb, ?_⟩) L.kind)
    have kp : ∀ b o, s1.heap.get? b = some o → hx.get? b = some o := fun b o e => hsb.extBut b o (Nat.ne_of_lt (Heap.lt_size e)) (Heap.get?_push_of_some _ e)
    have J := LamX.lam_start2 (E := E) (f := f) (c' := c') (tk := s1.toks + ([] : List (Str × Value)).length) I L I1.env0 hr.hd un hns kp
    refine PySem.W.kla_codeExpr (wpAny_mono ((hbody _ _ s1 H1 (hr.deeper _)).run [] _ _ H1 Q J ht) (fun v s' hq => ?_) fun e s' hq => hq)
    obtain ⟨w', H', J', rv, q⟩ := hq
    exact ⟨w', H', J'.os, J'.bare, J'.base, J'.hok, rv, q⟩
  have hx : Passes (L2.CX X.prog X.w) ((cxOf CXg X.prog X.w X.K X.mg X.base Ng qg sg g cdg X.A X.stack s H Eg).tr pn xe) E := passes_call tk hW
  refine wpAny_call (codeAny_mono rc fun r s' hq => ?_)
  cases r with
  | error e => exact hx pins1 σ1 H1 s1 e s' I1 hq
  | ok fl =>
    cases fl with
    | ret u => exact I1.after hq
    | next => exact False.elim hq
    | brk => exact False.elim hq
    | cont => exact False.elim hq
end
/-- another context of the same def -/
abbrev alt (X : Cx) (s0 : Shared) (H0 : Hp) (env : Env) (outer : List Env) (ex : List Addr) (fn : Str → Bool) (pn : List (Addr × Obj)) (xe : Value → Shared → Prop) : Cx := { X with s_0 := s0, H_0 := H0, env := env, outer := outer, ex := ex, fn := fn, pn := pn, xe := xe }
section
variable {X : Cx} {s0 : Shared} {H0 : Hp} {env : Env} {outer : List Env} {ex : List Addr} {fn : Str → Bool} {pn : List (Addr × Obj)} {xe : Value → Shared → Prop}
/-- x(e), e a lambda that X has made, x the def that calls it -/
theorem pe_hand {TT : (XK → Hp → VK → Prop) → Hp → VK → Prop} {x a : Str} {g : Addr} {k : Nat} {pg : Arguments} {bg : List Stmt} {sg : Scope} {dV kV doc pm cdv ct oc : Value} {an od : Option Addr} {osl : Array (Option Value)} {Ng : List Str}
    {params : Arguments} {body : Expr} {scope : Scope} {t : XK → TE} {e : Expr} {te : TE} {p pos : Pos} (sel : L2.St → L2.St) (hg : Gl (alt X s0 H0 env outer ex fn pn xe) x) (hm : X.mg x = some (.ref g)) (hk : PySem.W.keepIn X.K (.ref g) = true)
    (lk : X.K.lookup g = some ⟨oc, od, .func (PySem.W.fnOf x x pg bg sg dV kV doc pm an cdv ct), osl⟩) (hcg : PySem.W.codeIn X.K cdv x = true) (hb : L2.Binds X.K (PySem.W.fnOf x x pg bg sg dV kV doc pm an cdv ct) [a] []) (Sg : FnScope Ng [a] sg) (hNg : Ng[0]? = some a) (hva : Vis sg a)
    (hG : LamX.GivesTo X Ng x sg g cdv bg a (X.env.qual ++ "<lambda>") TT) (he : PE (alt X s0 H0 env outer ex fn pn xe) e te) (hM : ∀ {pins σ H s}, Inv (alt X s0 H0 env outer ex fn pn xe) pins σ H s → ∃ pX, Inv X pX (sel σ) H s)
    (hr : Room (k + 2) X.A) (L : LamX.LamS X.env.scope scope)
    (hbind : ∀ (q : Str) (cl : List (Str × Addr)) (pm cv ctv : Value), bindArgs (PySem.W.kla_fn "<lambda>" q params body scope cl pm cv ctv) ⟨[], []⟩ = pure [])
    (hbody : ∀ (A : Around) (outer : List Env) (s : Shared) (H : Hp) (E : XK) (f c' : Addr), Room k (A.deeper (LamX.lamEnv X scope s.heap.objs.size f c')) → PE (LamX.lamCx X A outer s H E scope f c') body (t E))
    (hst : starEach [e] env = (false, eval e env) :: starEach [] env := by rfl)
    (hdb : (x == ("__debug__" : Str)) = false := by decide) (hd : (a == ("__debug__" : Str)) = false := by decide) (hcd : (a == ("__classdict__" : Str)) = false := by decide) :
    PE (alt X s0 H0 env outer ex fn pn xe) (.Call (.Name x p) [e] [] pos) (fun σ H Q => te σ H fun v H1 => ∃ f pm c' ctv, v = .ref f ∧ H1 f = some (LamO f (PySem.W.kla_obj "<lambda>" (X.env.qual ++ "<lambda>") params body scope (cloFrom X.env.cells scope.names []) pm c' ctv)) ∧ H1 c' = some (LamX.CodeO c' (X.env.qual ++ "<lambda>")) ∧
      TT (fun E H' Q' => H' f = some (LamO f (PySem.W.kla_obj "<lambda>" (X.env.qual ++ "<lambda>") params body scope (cloFrom X.env.cells scope.names []) pm c' ctv)) ∧ t E (sel σ) H' Q') H1 Q) := by
  refine ⟨fun pins s σ H Q I h => ?_⟩
  refine wpAny_Call_Name_kw (ld_glob I hg hm ?_ hdb)
  refine PySem.W.callWith_K (h₀ := X.base) I.ok.mod.kin hk ?_ hst (by rfl)
  rw [hst]
  show wpAny _ _ (spliced ((false, eval e env) :: backTo pos (starEach [] env))) _ _ s
  refine Calls.spliced_cons (thn (he.run pins s σ H _ I h) fun u s' ⟨v, H1, I1, rv, hq⟩ => ?_)
  obtain ⟨f, pm', c', ctv, ev, hf, hco, h⟩ := hq
  subst ev
  obtain rfl : u = Value.ref f := rv
  refine Calls.spliced_nil ⟨I1.kIn, ?_⟩
  obtain ⟨pX, IX⟩ := hM I1
  have rc : codeAny (model X.prog X.w) X.A (.call (.ref g) ⟨[.ref f], []⟩) (CR C8.CX0 X.stack X.prog X.w H1 s' Q C8.E0) s' := by
    refine LamX.run_ofS (N := Ng) (ps := [a]) (us := [.ref f]) (vs := [.ref f]) lk hcg Sg hr I1.env0 (hb s' [.ref f] I1.kIn rfl) (.cons rfl .nil) rfl fun hr' => ?_
    obtain ⟨t', ht', hq'⟩ := hG f c' s' H1 Q _ (fun W pn xe E p1 p2 tk hW => pe_actT (i := 0) IX L (hbind _ _ _ _ _) tk hW hr' (fun A outer s H hr2 => hbody A outer s H E f c' hr2) hNg hva hd hcd) hco h
    exact ⟨t', ht'.nox, hq'⟩
  refine wpAny_call (codeAny_mono rc fun r s2 hq => ?_)
  cases r with
  | error e => exact (show False from hq).elim
  | ok fl =>
    cases fl with
    | ret u => exact I1.after hq
    | next => exact False.elim hq
    | brk => exact False.elim hq
    | cont => exact False.elim hq
end
end LamZ
end Text_Gm
section Text_Gp
set_option Elab.async false
set_option linter.all false
set_option maxRecDepth 100000
set_option maxHeartbeats 4000000
/-! Gp: list comprehensions whose tests know what held of the def when they were begun. -/
namespace Gx
open PySem PySem.Spec PyProof.Rows L2 GxR
section
variable {X : Cx}
theorem lcP_core {pns : List (Addr × Obj)} {s : Shared} {σ : L2.St} {H : Hp} {Q : VK} {elt tg iter : Expr} {tst : List Expr} {scp : Scope} {own : List (Str × Nat)} {pos pos' : Pos} {wi : TI} {g : TG} {tt : TT} {te : TE} {use : Option (Value → Sem Unit)} {Qf : Value → Shared → Prop}
    (hc : X.calm = true) (hN : X.N.Nodup) (I : Inv X pns σ H s) (hi : PI X tg iter wi) (ok : BlkOk X.N X.env.scope scp own)
    (hg : ∀ (s : Shared) (H : Hp) (C : Addr) (cl : List (Str × Addr)) (fp : List Addr), PG (X.blk s H scp (compEnvC scp cl C X.env) fp) tg g) (ht : ∀ (s : Shared) (H : Hp) (C : Addr) (cl : List (Str × Addr)) (fp : List Addr), Inv X pns σ H s → (∀ b ∈ fp, FpOk X pns H b ∧ b < s.heap.objs.size) → PTs (X.blk s H scp (compEnvC scp cl C X.env) fp) tst tt)
    (he : ∀ (s : Shared) (H : Hp) (C : Addr) (cl : List (Str × Addr)) (fp : List Addr), PE (X.blk s H scp (compEnvC scp cl C X.env) fp) elt te) (hs : ∀ x, foldedSetIterable iter X.env x = pure x)
    (h : tLc wi g tt te (own.map (·.2)) σ H Q)
    (hRR : ∀ D C s' m H', Inv X pns σ H' s' → Q (.ref D) H' → s'.heap.Ns C m → FpOk X pns H' C → compPost (model X.prog X.w) X.A X.xe use Qf (.ref D) C (.ok .next) s') :
    wpAny (model X.prog X.w) X.A (comprehension (.ListComp elt [⟨tg, iter, tst, 0⟩] scp pos) scp X.env pos' (newList []) false (eval iter X.env) use) Qf X.xe s := by
  have hfree : ∀ y ∈ scp.names, y.2 = .free → ∃ c, X.env.cells.lookup y.1 = some c := fun y hy e => by
    rcases ok.free y hy e with k | k
    · exact I.ok.has _ (.inl k)
    · exact I.ok.has _ (.inr k)
  refine wpAny_comprehension_free (use := use) rfl hs (closure_ok hfree) ok.kind (fun y hy e => by rw [ok.uniq y hy, e])
    (thn (hi.run pns s σ H _ I h) fun xv sh1 hx => thn hx fun itv sh2 h2 => ?_)
  obtain ⟨it, fp, tn, J, hp2, e, iv2, T, sta2, f2, q⟩ := h2
  subst e
  refine wpAny_newObj_type (newEnv_comp ?_) (by show 0 ≤ sizeLine; decide)
  generalize hD : sh2.heap.objs.size = D
  have hDn : hp2 D = none := iv2.hok.fresh (Nat.le_of_eq hD)
  obtain ⟨W, ⟨m0, w0⟩, turn⟩ := q D hDn
  -- the new list
  generalize hs3 : ({ sh2 with heap := sh2.heap.push { cls := .type "list", data := .seq ([] : List Value).toArray } } : Shared) = sh3
  have iv3 : Inv X pns σ (upd hp2 D (.lst [])) sh3 := by
    rw [← hs3]
    refine iv2.laid (t' := sh2.toks) (fun b o e => Heap.get?_push_of_some _ e) (Nat.le_of_eq hD) ⟨Nat.zero_le _, [], 0, .nil, ?_⟩
    rw [← hD]
    exact Heap.get?_push_size _ rfl
  have h3 : sh3.heap = sh2.heap.push { cls := .type "list", data := .seq ([] : List Value).toArray } := by rw [← hs3]
  have sz : ∀ b ∈ fp, b < sh2.heap.objs.size := fun b hb => by
    obtain ⟨o, e, _⟩ := T.obj _ _ sta2 b hb
    exact Heap.lt_size e
  have f3 : ∀ b ∈ fp, FpOk X pns (upd hp2 D (.lst [])) b ∧ b < sh3.heap.objs.size := fun b hb => by
    have hlt := sz b hb
    refine ⟨⟨?_, (f2 b hb).2⟩, by rw [h3, Heap.size_push]; exact Nat.lt_succ_of_lt hlt⟩
    rw [upd_ne (by rw [← hD]; exact Nat.ne_of_lt hlt)]
    exact (f2 b hb).1
  have sta3 : tn 0 sh3.heap := T.keep _ _ _ sta2 fun b _ o e => by rw [h3]; exact Heap.get?_push_of_some _ e
  have iv4 := block_start iv3 ok hN f3
  have pg := hg sh3 (upd hp2 D (.lst [])) sh3.heap.objs.size (cellsFrom (sh3.heap.objs.size + 1) scp.names (cloFrom X.env.cells scp.names [])) fp
  have pt := ht sh3 (upd hp2 D (.lst [])) sh3.heap.objs.size (cellsFrom (sh3.heap.objs.size + 1) scp.names (cloFrom X.env.cells scp.names [])) fp iv3 f3
  have pe := he sh3 (upd hp2 D (.lst [])) sh3.heap.objs.size (cellsFrom (sh3.heap.objs.size + 1) scp.names (cloFrom X.env.cells scp.names [])) fp
  show codeAny _ _ (.compStart (.ListComp elt [⟨tg, iter, tst, 0⟩] scp pos) 0 (.ref it) (.ref D) (compEnvC scp (cellsFrom (sh3.heap.objs.size + 1) scp.names (cloFrom X.env.cells scp.names [])) sh3.heap.objs.size X.env)) (compPost (model X.prog X.w) X.A X.xe use Qf (.ref D) sh3.heap.objs.size) { sh3 with heap := pushCells (sh3.heap.push { cls := .type "dict", data := .dict #[] }) scp.names }
  have nfp : ∀ b ∈ fp, (upd hp2 D (.lst [])) b = none := fun b hb => (f3 b hb).1.1
  generalize hce : compEnvC scp (cellsFrom (sh3.heap.objs.size + 1) scp.names (cloFrom X.env.cells scp.names [])) sh3.heap.objs.size X.env = ce at iv4 pg pt pe ⊢
  have cL : ce.locals = sh3.heap.objs.size := by subst hce; rfl
  generalize hH3 : upd hp2 D (.lst []) = hp3 at iv3 iv4 pg pt pe w0 nfp f3
  generalize hs4 : ({ sh3 with heap := pushCells (sh3.heap.push { cls := .type "dict", data := .dict #[] }) scp.names } : Shared) = sh4 at iv4 ⊢
  have sta4 : tn 0 sh4.heap := T.keep _ _ _ sta3 fun b _ o e => by rw [← hs4]; exact pushCells_keeps _ _ _ _ (Heap.get?_push_of_some _ e)
  have stat : ∀ {σ' : L2.St} {H' : Hp} {s' : Shared}, Inv (X.blk sh3 hp3 scp ce fp) [] σ' H' s' → (∀ b ∈ fp, H' b = none) → ∀ b ∈ fp, FpOk (X.blk sh3 hp3 scp ce fp) [] H' b := fun {σ' H' s'} I' hn b hb =>
    ⟨hn b hb, (I'.ok.exf b hb).1, I'.ok.exfs b hb, .inl hb, fun x c e => (I'.ok.exf b hb).2 x c e, fun p hp => absurd (show p ∈ ([] : List (Addr × Obj)) ++ [] from hp) (by simp)⟩
  have loop : codeAny (model X.prog X.w) X.A (.compLoop (.ListComp elt [⟨tg, iter, tst, 0⟩] scp pos) 0 (.ref it) (.ref D) ce) (compPost (model X.prog X.w) X.A X.xe use Qf (.ref D) sh3.heap.objs.size) sh4 := by
    refine compLoop_any (fun n s' => ∃ i H', Inv (X.blk sh3 hp3 scp ce fp) [] (wipe σ (own.map (·.2))) H' s' ∧ tn i s'.heap ∧ (∀ b ∈ fp, H' b = none) ∧ W i n H') ?_ m0 ⟨0, hp3, iv4, sta4, nfp, w0⟩
    rintro n sh5 ⟨i, hp5, iv5, sta5, n5, w5⟩
    rcases turn i n hp5 w5 with ⟨stop, qq⟩ | ⟨go, Nx, hNx, step⟩
    · have td := T.done (X.blk sh3 hp3 scp ce fp) rfl rfl rfl hc i [] sh5 _ hp5 (fun _ _ => False) iv5 (stat iv5 n5) sta5 stop
      refine thnF td fun r sh6 ⟨hr, iv6⟩ => ?_
      subst hr
      -- back in the def's context
      have iv7 : Inv X pns σ hp5 sh6 := iv3.call' (ch := fp) iv6.os iv6.base iv6.hok iv6.bare fun b hb => ⟨(f3 b hb).1.2.2.2.1, (f3 b hb).1.2.1, (f3 b hb).1.2.2.2.2.1, (f3 b hb).1.2.2.2.2.2⟩
      have nC : hp5 sh3.heap.objs.size = none := by
        have z : hp5 ce.locals = none := iv6.free
        rw [cL] at z
        exact z
      obtain ⟨m, hn, _⟩ := iv6.loc
      have hn : sh6.heap.Ns ce.locals m := hn
      rw [cL] at hn
      exact hRR D sh3.heap.objs.size sh6 m hp5 iv7 qq hn (iv3.fpOk (Nat.le_refl _) nC)
    · have ti := T.item (X.blk sh3 hp3 scp ce fp) rfl rfl rfl hc i [] sh5 _ hp5 (fun _ _ => False) iv5 (stat iv5 n5) sta5 go
      refine thnF ti fun r sh6 ⟨u, hr, h6⟩ => ?_
      subst hr
      refine thnF h6 fun _ sh7 ⟨x, hp7, iv7, r7, y7, sta7, n7⟩ => ?_
      have iv7' := iv7.pinned (stat iv7 n7) (T.obj _ _ sta7)
      refine thnF (pg.run _ sh7 _ hp7 x u _ iv7' r7 (step x hp7 y7)) fun _ sh8 ⟨σ8, hp8, iv8, hw8, q8⟩ => ?_
      refine thnF (pt.run _ sh8 σ8 hp8 _ iv8 q8) fun b sh9 ⟨hp9, iv9, q9⟩ => ?_
      -- the turn's end
      have fin : ∀ {s' : Shared} {H' : Hp}, Inv (X.blk sh3 hp3 scp ce fp) ([] ++ pinsAt fp sh7.heap) σ8 H' s' → Nx H' → ∃ m, m < n ∧ ∃ i H', Inv (X.blk sh3 hp3 scp ce fp) [] (wipe σ (own.map (·.2))) H' s' ∧ tn i s'.heap ∧ (∀ b ∈ fp, H' b = none) ∧ W i m H' := fun {s' H'} I' nx => by
        obtain ⟨m', hm, w'⟩ := hNx H' nx
        have pin' : ∀ b ∈ fp, ∀ o, sh7.heap.get? b = some o → s'.heap.get? b = some o ∧ H' b = none := fun b hb o e =>
          let z := I'.pin (b, o) (List.mem_append_right _ (List.mem_append_right _ (mem_pinsAt hb e)))
          ⟨z.1, z.2.1⟩
        have hl : (wipe σ (own.map (·.2))).length = σ8.length := by rw [← hw8, wipe_length]
        refine ⟨m', hm, i + 1, H', (I'.unpinned (pins := [])).weak hl (fun j v e => ?_), T.keep _ _ _ sta7 fun b hb o e => (pin' b hb o e).1, fun b hb => ?_, w'⟩
        · rw [← hw8] at e
          exact (wipe_some e).1
        · obtain ⟨o, e, _⟩ := T.obj _ _ sta7 b hb
          exact (pin' b hb o e).2
      cases b with
      | false =>
        simp only [Bool.false_eq_true, if_false] at q9 ⊢
        exact fin iv9 q9
      | true =>
        simp only [if_true] at q9 ⊢
        refine thnF (pe.run _ sh9 σ8 hp9 _ iv9 q9) fun z sh10 ⟨yv, hp10, iv10, r10, acc, hD10, hz10, nx⟩ => ?_
        exact app_ok (X := X.blk sh3 hp3 scp ce fp) iv10 hD10 hz10 r10 fun sh11 iv11 => fin iv11 nx
  exact codeAny_compStart_list loop (T.self X.A 0 _ _ _ sta4 loop)
theorem pe_lcP {elt tg iter : Expr} {tst : List Expr} {scp : Scope} {own : List (Str × Nat)} {pos : Pos} {wi : TI} {g : TG} {tt : L2.St → TT} {te : TE} (hc : X.calm = true) (hN : X.N.Nodup) (hi : PI X tg iter wi) (ok : BlkOk X.N X.env.scope scp own)
    (hg : ∀ (s : Shared) (H : Hp) (C : Addr) (cl : List (Str × Addr)) (fp : List Addr), PG (X.blk s H scp (compEnvC scp cl C X.env) fp) tg g) (ht : ∀ (pns : List (Addr × Obj)) (σ : L2.St) (s : Shared) (H : Hp) (C : Addr) (cl : List (Str × Addr)) (fp : List Addr), Inv X pns σ H s → (∀ b ∈ fp, FpOk X pns H b ∧ b < s.heap.objs.size) → PTs (X.blk s H scp (compEnvC scp cl C X.env) fp) tst (tt σ))
    (he : ∀ (s : Shared) (H : Hp) (C : Addr) (cl : List (Str × Addr)) (fp : List Addr), PE (X.blk s H scp (compEnvC scp cl C X.env) fp) elt te) (hs : ∀ x, foldedSetIterable iter X.env x = pure x := by intro _; rfl) :
    PE X (.ListComp elt [⟨tg, iter, tst, 0⟩] scp pos) (fun σ H Q => tLc wi g (tt σ) te (own.map (·.2)) σ H Q) := by
  refine ⟨fun pns s σ H Q I h => ?_⟩
  rw [eval_ListComp]
  refine lcP_core hc hN I hi ok hg (ht pns σ) he hs h fun D C s' m H' I' q hn f => ⟨m, hn, fun h'' sb => ?_⟩
  obtain ⟨f0, f1, f2, f3, f4, f5⟩ := f
  exact ⟨.ref D, H', I'.turned (t' := s'.toks) (fun b o hb e => (sb.2 b hb).trans e) f0 f1 f3 f4 f5, rfl, q⟩
/-- within the comprehension the def's own context still holds -/
theorem blk_back {pns ps : List (Addr × Obj)} {σ σ2 : L2.St} {H hp2 : Hp} {s sh2 : Shared} {scp : Scope} {ce : Env} {fp : List Addr} (I : Inv X pns σ H s) (f : ∀ b ∈ fp, FpOk X pns H b ∧ b < s.heap.objs.size) (J : Inv (X.blk s H scp ce fp) ps σ2 hp2 sh2) : Inv X pns σ hp2 sh2 :=
  I.call' (ch := fp) J.os J.base J.hok J.bare fun b hb => ⟨(f b hb).1.2.2.2.1, (f b hb).1.2.1, (f b hb).1.2.2.2.2.1, (f b hb).1.2.2.2.2.2⟩
end
end Gx
end Text_Gp
section Text_Gq
set_option Elab.async false
set_option linter.all false
set_option maxRecDepth 100000
set_option maxHeartbeats 4000000
namespace Gx
open PySem PySem.Spec PyProof.Rows L2 GxR
open PySem.W (alike dataLt)
open PySem.SeqAt
/-! min(xs) of a list of alike data: the item itself -/
theorem min_list_at {prog : Program} {w : World} {A : Around} {E : Value → Shared → Prop} {s : Shared} {l : Addr} {vs : Array Value} {x : PyData} {xs : List PyData} {as : List Addr} {Q : Value → Shared → Prop} (hh : A.handled = none) (hl : s.heap.IsList l vs) (hr : ReadsAll s.heap vs.toList (x :: xs) as) (ha : PySem.W.AlikeAll (x :: xs)) (hu : A.units + 1 + PyData.depthAll (x :: xs) < cLine)
    (h : ∀ (i : Nat) v h' tk, vs[i]? = some v → (x :: xs).getD i .none = PySem.W.minD x xs → (∀ b o, s.heap.get? b = some o → h'.get? b = some o) → Q v { s with heap := h', toks := tk }) :
    wpAny (model prog w) A (call (.builtin "min") [.ref l]) Q E s := by
  have hn : vs.size = xs.length + 1 := PySem.W.readsAll_len hr
  refine call_min_walkH (PySem.W.iter_listW (A := A.in1) hh hl fun s₂ e W st hfp hw hk => ?_)
  refine ⟨_, _, _, _, _, _, _, s.heap, _, rfl, W, st, hfp, by omega, hw, hk, PySem.W.cmpIn_lt (A := A.in1) hr ha (by show A.units + 1 + _ < _; exact hu), fun v s' hP m => ?_⟩
  obtain ⟨h', tk, rfl, hk'⟩ := PySem.W.moved_old e rfl m
  have e1 : vs.size - 1 = xs.length := by omega
  have e2 := (PySem.W.argBest_fold dataLt PyData.none x xs xs.length (Nat.le_refl _)).2
  rw [List.take_length] at e2
  rw [e1] at hP
  exact h _ v h' tk hP e2 hk'
def rMinD (K : PySem.W.Frag) : List V → Hp → VK → Prop := fun vs H Q => ∃ (a : Addr) (xs : List V) (d : PyData) (ds : List PyData), vs = [V.ref a] ∧ SqL K H a xs ∧ DpAll K H xs (d :: ds) ∧ PySem.W.AlikeAll (d :: ds) ∧ PyData.depthAll (d :: ds) ≤ 60 ∧ ∀ (i : Nat) (x : V), xs[i]? = some x → (d :: ds).getD i .none = PySem.W.minD d ds → Q x H
theorem cr_minD {X : Cx} (hc : X.calm = true) (hu : X.A.units + 64 < cLine) : CallR X (.builtin "min") (rMinD X.K) := by
  intro pins s σ H vs us Q I r h
  obtain ⟨a, xs, d, ds, rfl, hs, hd, ha, hdp, q⟩ := h
  obtain ⟨its, rv, hl, _⟩ := I.list hs
  rw [Vals.ref1 r]
  obtain ⟨as, q1⟩ := Dp.readsAll I _ _ _ hd rv
  refine min_list_at (I.ok.hd hc) hl.isList q1 ha (by omega) fun i v h' tk hv hm hk => ?_
  have hv : its[i]? = some v := by simpa using hv
  cases e : xs[i]? with
  | none =>
    have := Vals.none_of rv e
    rw [this] at hv
    cases hv
  | some y =>
    obtain ⟨u, hu2, ry⟩ := rv.get e
    rw [hv] at hu2
    cases hu2
    exact ⟨y, H, I.kept hk, ry, q i y e hm⟩
end Gx
end Text_Gq
section Text_R1
set_option Elab.async false
set_option linter.all false
set_option maxRecDepth 100000
set_option maxHeartbeats 4000000
/-! The thirteenth law's defs, by the hand layer. -/
namespace R
open PySem PySem.Spec PyProof.Rows L2 Gx GxR
def top (i : Nat) : Stmt := PySem.Challenge.pw_repostack_k13_rules_that_guard.main.body.getD i (.Pass ⟨0, 0, 0, 0⟩)
def noS : Stmt := .Pass ⟨0, 0, 0, 0⟩
abbrev sChanges : Stmt := top 4
abbrev sFits : Stmt := top 5
abbrev sInit : Stmt := inClass (top 7) 0
abbrev sOwn : Stmt := inClass (top 7) 1
abbrev sGuard : Stmt := inClass (top 7) 2
abbrev sLimit : Stmt := inClass (top 7) 3
abbrev sOwners : Stmt := inClass (top 7) 4
abbrev sNeeded : Stmt := inClass (top 7) 5
abbrev sLacks : Stmt := inClass (top 7) 6
abbrev sFaults : Stmt := inClass (top 7) 7
abbrev sFewest : Stmt := inClass (top 7) 8
abbrev sDice : Stmt := top 9
abbrev sRoll : Stmt := top 10
abbrev sRounds : Stmt := top 11
abbrev sTold : Stmt := top 12
abbrev sLFiles : Stmt := top 13
abbrev sLChg : Stmt := top 14
abbrev sLOwn : Stmt := top 15
abbrev sLSets : Stmt := top 16
abbrev sPlain : Stmt := top 17
abbrev sLaw : Stmt := top 18

/-- a def whose code object stands at c -/
structure FunC (K : PySem.W.Frag) (x qual : Str) (st : Stmt) (f c : Addr) (fd : FuncData) : Prop where
  ex : ∃ (oc : Value) (od : Option Addr) (kV doc pm : Value) (an : Option Addr) (ct : Value) (osl : Array (Option Value)),
    fd = PySem.W.fnOf x qual (defArgs st) (defBody st) (defScope st) .none kV doc pm an (.ref c) ct ∧ K.lookup f = some ⟨oc, od, .func fd, osl⟩ ∧ PySem.W.codeIn K (.ref c) qual = true
  kp : PySem.W.keepIn K (.ref f) = true
section
variable {P : Program} {w : World} {K : PySem.W.Frag} {mg : Str → Option Value} {base : Heap}
theorem FunC.okX {x qual : Str} {st : Stmt} {f c : Addr} {fd : FuncData} {N ps : List Str} {k : Nat} {sp : Sp} (F : FunC K x qual st f c fd) (S : FnScope N ps (defScope st)) (len : ∀ vs H Q E, sp vs H Q E → vs.length = ps.length)
    (hbody : ∀ (A : Around) (outer : List Env) (s : Shared) (H : Hp) (vs : List V) (Q : VK) (E : XK), Room k (A.deeper (envOfC qual (defScope st) s.heap.objs.size f (.ref c))) → sp vs H Q E →
      ∃ t, PSs (cxOf (L2.CX P w) P w K mg base N qual (defScope st) f (.ref c) A outer s H E) (defBody st) t ∧ t { nx := fun _ H' => Q .non H', rt := Q } (start N vs) H) : FnOk P w K mg base (L2.CX P w) (k + 1) f fd ps sp := by
  obtain ⟨oc, od, kV, doc, pm, an, ct, osl, rfl, lk, hcd⟩ := F.ex
  exact fn_of lk hcd S len fun A outer s H vs Q E hr hsp => hbody A outer s H vs Q E hr hsp
theorem FunC.ok {x qual : Str} {st : Stmt} {f c : Addr} {fd : FuncData} {N ps : List Str} {k : Nat} {sp : Sp} (F : FunC K x qual st f c fd) (S : FnScope N ps (defScope st)) (len : ∀ vs H Q E, sp vs H Q E → vs.length = ps.length)
    (hbody : ∀ (A : Around) (outer : List Env) (s : Shared) (H : Hp) (vs : List V) (Q : VK) (E : XK), Room k (A.deeper (envOfC qual (defScope st) s.heap.objs.size f (.ref c))) → sp vs H Q E →
      ∃ t, PSs (cxOf CX0 P w K mg base N qual (defScope st) f (.ref c) A outer s H E).nox (defBody st) t ∧ t { nx := fun _ H' => Q .non H', rt := Q } (start N vs) H) : FnOk P w K mg base CX0 (k + 1) f fd ps sp := by
  obtain ⟨oc, od, kV, doc, pm, an, ct, osl, rfl, lk, hcd⟩ := F.ex
  refine fn_of lk hcd S len fun A outer s H vs Q E hr hsp => ?_
  obtain ⟨t, h, q⟩ := hbody A outer s H vs Q E hr hsp
  exact ⟨t, h.nox, q⟩
theorem FunC.fn {x qual : Str} {st : Stmt} {f c : Addr} {fd : FuncData} (F : FunC K x qual st f c fd) : Fun K x qual st f fd := by
  obtain ⟨oc, od, kV, doc, pm, an, ct, osl, e, lk, hcd⟩ := F.ex
  exact ⟨⟨oc, od, kV, doc, pm, an, _, ct, osl, e, lk, hcd⟩, F.kp⟩
end

/-- the tables of code objects that grow: of fits, own, lacks, faults, fewest_who, _law_plain, law -/
structure Tb where
  f : Addr
  o : Addr
  l : Addr
  a : Addr
  w : Addr
  p : Addr
  m : Addr
abbrev lamP : Str := "_law_plain.<locals>.<lambda>"
abbrev lamM : Str := "law.<locals>.<lambda>"
/-- they stand -/
structure TOk (T : Tb) (H : Hp) : Prop where
  f : TabG H T.f
  o : TabG H T.o
  l : TabG H T.l
  a : TabG H T.a
  w : TabN H T.w [T.p, T.m]
  p : LamX.TabS H T.p lamP
  m : LamX.TabS H T.m lamM
  nw : T.w ∉ [T.f, T.o, T.l, T.a, T.p, T.m]
  np : T.p ∉ [T.f, T.o, T.l, T.a, T.w, T.m]
  nm : T.m ∉ [T.f, T.o, T.l, T.a, T.w, T.p]
/-- all but tables stays, but for what stands in S; the tables stand -/
def GoE (T : Tb) (S : List Addr) (H H' : Hp) : Prop := (∀ b o, H b = some o → (∀ ps, o ≠ .tbl ps) → (b ∉ S ∨ ∃ xs, o = .tup xs) → H' b = some o) ∧ TOk T H'
abbrev Go (T : Tb) : Hp → Hp → Prop := GoE T []
theorem GoE.refl {T : Tb} {S : List Addr} {H : Hp} (t : TOk T H) : GoE T S H H := ⟨fun _ _ e _ _ => e, t⟩
theorem GoE.trans {T : Tb} {S : List Addr} {H H1 H2 : Hp} (a : GoE T S H H1) (b : GoE T S H1 H2) : GoE T S H H2 := ⟨fun c o e n m => b.1 c o (a.1 c o e n m) n m, b.2⟩
theorem GoE.mono {T : Tb} {S S' : List Addr} {H H1 : Hp} (a : GoE T S H H1) (h : ∀ b ∈ S, b ∈ S') : GoE T S' H H1 := ⟨fun c o e n m => a.1 c o e n (m.imp_left fun q z => q (h c z)), a.2⟩
theorem Go.any {T : Tb} {S : List Addr} {H H1 : Hp} (a : Go T H H1) : GoE T S H H1 := a.mono fun b hb => absurd hb (by simp)
theorem GoE.at {T : Tb} {S : List Addr} {H H' : Hp} {b : Addr} {o : HO} (g : GoE T S H H') (e : H b = some o) (m : b ∉ S := by simp) (n : ∀ ps, o ≠ .tbl ps := by intro _ z; cases z) : H' b = some o := g.1 b o e n (.inl m)
/-- tuples never change -/
def ExtT (H H' : Hp) : Prop := ∀ b xs, H b = some (.tup xs) → H' b = some (.tup xs)
theorem GoE.t {T : Tb} {S : List Addr} {H H' : Hp} (g : GoE T S H H') : ExtT H H' := fun b xs e => g.1 b _ e (by intro _ z; cases z) (.inr ⟨xs, rfl⟩)
theorem TabG.not {H : Hp} {P b : Addr} {o : HO} (t : TabG H P) (e : H b = some o) (n : ∀ ps, o ≠ .tbl ps) : b ≠ P := fun z => by
  obtain ⟨ps, h, _⟩ := t
  rw [z, h] at e
  exact n ps (Option.some.inj e).symm
theorem tabG_of {H H' : Hp} {P : Addr} (t : TabG H P) (e : H' P = H P) : TabG H' P := by
  obtain ⟨ps, h, k⟩ := t
  exact ⟨ps, e.trans h, k⟩
theorem tabS_of {H H' : Hp} {P : Addr} {q : Str} (t : LamX.TabS H P q) (e : H' P = H P) (k : ∀ c, H c = some (LamX.CodeO c q) → H' c = some (LamX.CodeO c q)) : LamX.TabS H' P q := by
  obtain ⟨ps, h, ht, ha⟩ := t
  refine ⟨ps, e.trans h, ht, fun pos cv hc => ?_⟩
  obtain ⟨c, e1, e2⟩ := ha pos cv hc
  exact ⟨c, e1, k c e2⟩
theorem TOk.ext {T : Tb} {H H' : Hp} (t : TOk T H) (e : ∀ b o, H b = some o → H' b = some o) : TOk T H' := by
  have g : ∀ P, TabG H P → TabG H' P := fun P ⟨ps, a, b⟩ => ⟨ps, e _ _ a, b⟩
  exact ⟨g _ t.f, g _ t.o, g _ t.l, g _ t.a, t.w.ext e, t.p.ext e, t.m.ext e, t.nw, t.np, t.nm⟩
/-- a table other than w's, p's, m's grows -/
theorem tabbed_tok {T : Tb} {H H' : Hp} {P : Addr} (t : TOk T H) (nw : P ≠ T.w) (np : P ≠ T.p) (nm : P ≠ T.m) (hP : TabG H P) (tb : Tabbed P H H') : TOk T H' := by
  obtain ⟨g, k⟩ := id tb
  have one : ∀ a, TabG H a → TabG H' a := fun a ta => by
    by_cases e : a = P
    · rw [e]; exact g
    · exact tabG_of ta (k a e)
  exact ⟨one _ t.f, one _ t.o, one _ t.l, one _ t.a, t.w.other nw tb hP, tabS_of t.p (k _ np.symm) fun c e => by rw [k c (TabG.not hP e LamX.codeO_ne)]; exact e,
    tabS_of t.m (k _ nm.symm) fun c e => by rw [k c (TabG.not hP e LamX.codeO_ne)]; exact e, t.nw, t.np, t.nm⟩
theorem tabbed_go {T : Tb} {S : List Addr} {H H' : Hp} {P : Addr} (t : TOk T H) (nw : P ≠ T.w) (np : P ≠ T.p) (nm : P ≠ T.m) (hP : TabG H P) (tb : Tabbed P H H') : GoE T S H H' :=
  ⟨fun b o e n _ => by rw [tb.2 b (TabG.not hP e n)]; exact e, tabbed_tok t nw np nm hP tb⟩
theorem TOk.fx {T : Tb} {S : List Addr} {H H' : Hp} (t : TOk T H) (tb : Tabbed T.f H H') : GoE T S H H' := tabbed_go t (fun e => t.nw (by simp [e])) (fun e => t.np (by simp [e])) (fun e => t.nm (by simp [e])) t.f tb
theorem TOk.ox {T : Tb} {S : List Addr} {H H' : Hp} (t : TOk T H) (tb : Tabbed T.o H H') : GoE T S H H' := tabbed_go t (fun e => t.nw (by simp [e])) (fun e => t.np (by simp [e])) (fun e => t.nm (by simp [e])) t.o tb
theorem TOk.lx {T : Tb} {S : List Addr} {H H' : Hp} (t : TOk T H) (tb : Tabbed T.l H H') : GoE T S H H' := tabbed_go t (fun e => t.nw (by simp [e])) (fun e => t.np (by simp [e])) (fun e => t.nm (by simp [e])) t.l tb
theorem TOk.ax {T : Tb} {S : List Addr} {H H' : Hp} (t : TOk T H) (tb : Tabbed T.a H H') : GoE T S H H' := tabbed_go t (fun e => t.nw (by simp [e])) (fun e => t.np (by simp [e])) (fun e => t.nm (by simp [e])) t.a tb
/-- a new thing is laid -/
theorem go_upd {T : Tb} {S : List Addr} {H : Hp} {p : Addr} {o : HO} (t : TOk T H) (hp : H p = none) : GoE T S H (upd H p o) :=
  have q : ∀ b u, H b = some u → upd H p o b = some u := fun b u e => by rw [upd_ne (ne_of_none e hp)]; exact e
  ⟨fun b u e _ _ => q b u e, t.ext q⟩
/-- a thing in S is written -/
theorem go_set {T : Tb} {S : List Addr} {H : Hp} {p : Addr} {u o : HO} (t : TOk T H) (hp : H p = some u) (hu : (∀ ps, u ≠ .tbl ps) ∧ (∀ φ, u ≠ .ext φ) ∧ ∀ xs, u ≠ .tup xs) (hS : p ∈ S) : GoE T S H (upd H p o) := by
  have nT : ∀ P, TabG H P → P ≠ p := fun P tP e => TabG.not tP hp hu.1 e.symm
  have one : ∀ P, TabG H P → TabG (upd H p o) P := fun P tP => tabG_of tP (upd_ne (nT P tP))
  have nE : ∀ b φ, H b = some (.ext φ) → upd H p o b = some (.ext φ) := fun b φ e => by
    rw [upd_ne]
    · exact e
    · intro z
      rw [z, hp] at e
      exact hu.2.1 φ (Option.some.inj e)
  have oneS : ∀ P q, LamX.TabS H P q → LamX.TabS (upd H p o) P q := fun P q tP => tabS_of tP (upd_ne (nT P (let ⟨ps, a, b, _⟩ := tP; ⟨ps, a, b⟩))) fun c e => nE c _ e
  refine ⟨fun b v e _ hb => by
    rw [upd_ne (show b ≠ p from fun z => ?_)]
    · exact e
    · rcases hb with hb | ⟨xs, hb⟩
      · exact hb (by rw [z]; exact hS)
      · rw [z, hp] at e
        exact hu.2.2 xs ((Option.some.inj e).trans hb), one _ t.f, one _ t.o, one _ t.l, one _ t.a, ?_, oneS _ _ t.p, oneS _ _ t.m, t.nw, t.np, t.nm⟩
  obtain ⟨ps, h1, h2, h3⟩ := id t.w
  refine ⟨ps, by rw [upd_ne (nT _ t.w.tab)]; exact h1, h2, fun pos cv hc => ?_⟩
  obtain ⟨c0, P0, e1, e2, e3, e4⟩ := h3 pos cv hc
  exact ⟨c0, P0, e1, nE _ _ e2, one _ e3, e4⟩
theorem GoE.seq {T : Tb} {S : List Addr} {K : PySem.W.Frag} {H H' : Hp} {a : Addr} {xs : List V} (g : GoE T S H H') (h : SqL K H a xs) (m : a ∉ S := by simp) : SqL K H' a xs := by
  rcases h with h | h
  · rcases h with h | ⟨o, h⟩
    · exact .inl (.inl (g.at h m))
    · exact .inl (.inr ⟨o, g.at h m⟩)
  · exact .inr h
end R
end Text_R1
section Text_R2
set_option Elab.async false
set_option linter.all false
set_option maxRecDepth 100000
set_option maxHeartbeats 4000000
namespace L2
theorem pss_dead {X : Cx} {st : List PySem.Stmt} : PSs X st (fun _ _ _ => False) := ⟨fun _ _ _ _ _ _ h => h.elim⟩
end L2
namespace R
open PySem PySem.Spec PyProof.Rows L2 Gx GxR
/-- names of built-ins that the top leaves alone -/
structure Tx (K : PySem.W.Frag) (mg : Str → Option Value) : Prop where
  any : mg "any" = none
  all : mg "all" = none
  len : mg "len" = none
  sorted : mg "sorted" = none
  range : mg "range" = none
  abs : mg "abs" = none
  int : mg "int" = none
  dict : mg "dict" = none
  list : mg "list" = none
  tuple : mg "tuple" = none
  min : mg "min" = none
  str : mg "str" = none
/-- the errors: RuleError at CR, StoreError at CS -/
structure Er (K : PySem.W.Frag) (mg : Str → Option Value) (CR CS : Addr) : Prop where
  gR : mg "RuleError" = some (.ref CR)
  gS : mg "StoreError" = some (.ref CS)
  xR : PySem.W.excIn K CR [.type "ValueError", .type "Exception", .type "BaseException", .type "object"] "ValueError.__new__" = true
  kR : PySem.W.keepIn K (.ref CR) = true
  bR : PySem.W.subIn K (.ref CR) (.type "BaseException") = some true
  tR : PySem.W.typeIn K (.ref CR) = some (.type "type")
  bS : PySem.W.subIn K (.ref CS) (.type "BaseException") = some true
  tS : PySem.W.typeIn K (.ref CS) = some (.type "type")
  iS : PySem.W.isClsIn K CS = true
  sRS : PySem.W.subIn K (.ref CR) (.ref CS) = some true
theorem Er.caught {K : PySem.W.Frag} {mg : Str → Option Value} {CR CS : Addr} (e : Er K mg CR CS) : PySem.W.exmOne K (.ref CR) (.ref CS) = some true := by
  have hc : (PySem.W.clsIn K CS).isSome = true := by
    have := e.iS
    unfold PySem.W.isClsIn at this
    exact this
  simp [PySem.W.exmOne, PySem.W.kitCls, e.bS, hc, e.tS, e.sRS, e.bR, e.tR]
/-- any dice at l -/
def DiceV (xs : List V) : Prop := ∃ a b c : Int, xs = [.int a, .int b, .int c]
def DiceAt (H : Hp) (l : Addr) : Prop := ∃ xs, H l = some (.lst xs) ∧ DiceV xs
def spDice : Sp := fun vs H Q _ => ∃ n : Int, vs = [.int n] ∧ ∀ l a b c, H l = none → Q (.ref l) (upd H l (.lst [.int a, .int b, .int c]))
section
variable {P : Program} {w : World} {K : PySem.W.Frag} {mg : Str → Option Value} {base : Heap} {T : Tb}
theorem scDi : FnScope ["cell"] ["cell"] (defScope sDice) := ⟨rfl, rfl, rfl, by decide +kernel, rfl, by decide +kernel, by decide +kernel⟩
theorem ok_dice {f : Addr} {fd : FuncData} (F : Fun K "_law_dice" "_law_dice" sDice f fd) (X : Tx K mg) : FnOk P w K mg base CX0 1 f fd ["cell"] spDice := by
  refine F.ok scDi (fun vs H Q E h => ?_) (fun cdv A outer s H vs Q E hr h => ?_)
  · obtain ⟨n, rfl, _⟩ := h
    rfl
  · obtain ⟨n, rfl, k1⟩ := h
    refine ⟨_, pss_cons (ps_if (pt_chain op_lt op_lt (pe_op op_sub pe_int pe_int) (pv 0) pe_int) (pss_one (ps_ret (pe_lst (pa_cons (pe_callB call_abs (by rfl) X.abs (by decide +kernel) (pa_cons (pv 0) pa_nil)) (pa_cons pe_int (pa_cons pe_int pa_nil)))))) pss_nil)
      (pss_one (ps_ret (pe_lst (pa_cons (pv 0) (pa_cons (pe_op op_add pe_int (pe_op op_mod (pe_callTy call_int1 (by rfl) X.int (by decide +kernel) (pa_cons (pv 0) pa_nil)) pe_int)) (pa_cons (pe_callTy call_int1 (by rfl) X.int (by decide +kernel) (pa_cons (pe_cmpR op_ge (pv 0) (pe_op op_pow pe_int pe_int) (by rfl)) pa_nil)) pa_nil)))))), ?_⟩
    refine ⟨_, _, rfl, rfl, _, rfl, _, _, rfl, rfl, _, rfl, ?_⟩
    have lst3 : ∀ H' : Hp, H' = H → ∀ a b c : Int, ([V.int a, .int b, .int c] : List V).length ≤ sizeLine ∧ ∀ p, H' p = none → Q (.ref p) (upd H' p (.lst [.int a, .int b, .int c])) := fun H' e a b c => ⟨by show 3 ≤ sizeLine; decide, fun p hp => by rw [e] at hp ⊢; exact k1 p a b c hp⟩
    refine ite2 (fun _ => ⟨_, _, rfl, rfl, _, rfl, ite2 (fun _ => ⟨_, rfl, _, rfl, lst3 H rfl _ 0 2⟩) (fun _ => ?_)⟩) (fun _ => ⟨_, rfl, ?_⟩)
    all_goals exact ⟨_, rfl, _, rfl, .inl ⟨_, rfl, _, _, rfl, rfl, (by show (0 : Int) < 1009; decide), _, _, rfl, rfl, _, rfl, _, _, rfl, rfl, ⟨by decide, by decide, by decide⟩, _, _, rfl, rfl, .inr ⟨_, rfl, lst3 H rfl _ _ _⟩⟩⟩
end
def spRoll : Sp := fun vs H Q _ => ∃ (l : Addr) (m : Int), vs = [.ref l, .int m] ∧ 0 < m ∧ m ≤ 100000000 ∧ DiceAt H l ∧ ∀ (r : Int) xs, 0 ≤ r → r < m → DiceV xs → Q (.int r) (upd H l (.lst xs))
section
variable {P : Program} {w : World} {K : PySem.W.Frag} {mg : Str → Option Value} {base : Heap} {T : Tb}
theorem orR {c : Bool} {A B : Prop} (h1 : c = true → A) (h2 : c = false → B) : if c = true then A else B := by
  cases c with
  | true => exact h1 rfl
  | false => exact h2 rfl
theorem iteF' {c A B : Prop} [Decidable c] (h : ¬ c) (b : B) : if c then A else B := by rw [if_neg h]; exact b
theorem scRo : FnScope ["dice", "many", "found"] ["dice", "many"] (defScope sRoll) := ⟨rfl, rfl, rfl, by decide +kernel, rfl, by decide +kernel, by decide +kernel⟩
theorem ok_roll {f : Addr} {fd : FuncData} (F : Fun K "_law_roll" "_law_roll" sRoll f fd) (X : Tx K mg) : FnOk P w K mg base CX0 1 f fd ["dice", "many"] spRoll := by
  refine F.ok scRo (fun vs H Q E h => ?_) (fun cdv A outer s H vs Q E hr h => ?_)
  · obtain ⟨l, m, rfl, _⟩ := h
    rfl
  · obtain ⟨l, m, rfl, hm, hm2, ⟨xs, hl, a, b, c, rfl⟩, k1⟩ := h
    refine ⟨_, pss_cons (ps_if (PW.pt (pw_or (pt_cmpR op_eq (pe_ix ix_list (pv 0) pe_int (fun _ _ => rfl)) pe_int (nomark _)) (pw_or1 (PW.pt (pw_and (pt_cmpR op_eq (pe_ix ix_list (pv 0) pe_int (fun _ _ => rfl)) pe_int (nomark _)) (pw_and1 (pt_cmpR op_gt (pe_ix ix_list (pv 0) pe_int (fun _ _ => rfl)) pe_int (nomark _))))))))
        (pss_cons (ps_set (i := 2) scRo.nd rfl (Or.inl rfl) (pe_op op_mod (pe_callTy call_int1 (by rfl) X.int (by decide +kernel) (pa_cons (pe_ix ix_list (pv 0) pe_int (fun _ _ => rfl)) pa_nil)) (pv 1)))
        (pss_cons (ps_asg (pe_op op_fdiv (pe_ix ix_list (pv 0) pe_int (fun _ _ => rfl)) (pv 1)) (pg_sub (pv 0) pe_int set_list)) (pss_one (ps_ret (pv 2))))) pss_nil)
      (pss_cons (ps_asg pe_int (pg_sub (pv 0) pe_int set_list))
      (pss_cons (ps_if (pt_cmpR op_gt (pv 1) pe_int (nomark _)) pss_dead pss_nil)
      (pss_cons (ps_asg (pe_op op_mod (pe_callTy call_int1 (by rfl) X.int (by decide +kernel) (pa_cons (pe_op op_add (pe_op op_add (pe_op op_mul (pe_ix ix_list (pv 0) pe_int (fun _ _ => rfl)) pe_int) (pe_op op_mul (pe_ix ix_list (pv 0) pe_int (fun _ _ => rfl)) pe_int)) pe_int) pa_nil)) pe_int) (pg_sub (pv 0) pe_int set_list))
      (pss_cons (ps_asg (pe_op op_add (pe_ix ix_list (pv 0) pe_int (fun _ _ => rfl)) pe_int) (pg_sub (pv 0) pe_int set_list))
      (pss_one (ps_ret (pe_op op_mod (pe_callTy call_int1 (by rfl) X.int (by decide +kernel) (pa_cons (pe_op op_fdiv (pe_ix ix_list (pv 0) pe_int (fun _ _ => rfl)) pe_int) pa_nil)) (pv 1)))))))), ?_⟩
    have cd : CDiv a m := ⟨hm, by omega⟩
    have m0 : (0 : Int) < 1 := by decide
    refine ⟨_, rfl, _, _, _, _, rfl, rfl, SqL.of hl, rfl, rfl, _, rfl, ?_⟩
    have later := k1
    refine orR (fun _ => ?fst) (fun _ => ⟨_, rfl, _, _, _, _, rfl, rfl, SqL.of hl, rfl, rfl, _, rfl, ite2 (fun _ => ⟨_, rfl, _, _, _, _, rfl, rfl, SqL.of hl, rfl, _, _, rfl, rfl, _, rfl, ite2 (fun _ => ?fst2) (fun _ => ?lst2)⟩) (fun _ => ?lst)⟩)
    case fst => exact ⟨_, rfl, _, _, _, _, rfl, rfl, SqL.of hl, rfl, .inl ⟨_, rfl, _, rfl, _, _, rfl, rfl, hm, _, rfl, _, _, _, _, rfl, rfl, SqL.of hl, rfl, _, rfl, _, _, rfl, rfl, cd, _, rfl, _, _, _, _, rfl, rfl, hl, rfl, _, rfl, k1 _ _ (Int.emod_nonneg _ (by omega)) (Int.emod_lt_of_pos _ hm) ⟨_, _, _, rfl⟩⟩⟩
    case fst2 => exact ⟨_, rfl, _, _, _, _, rfl, rfl, SqL.of hl, rfl, .inl ⟨_, rfl, _, rfl, _, _, rfl, rfl, hm, _, rfl, _, _, _, _, rfl, rfl, SqL.of hl, rfl, _, rfl, _, _, rfl, rfl, cd, _, rfl, _, _, _, _, rfl, rfl, hl, rfl, _, rfl, k1 _ _ (Int.emod_nonneg _ (by omega)) (Int.emod_lt_of_pos _ hm) ⟨_, _, _, rfl⟩⟩⟩
    all_goals refine ⟨_, rfl, _, _, _, _, rfl, rfl, hl, rfl, ?_⟩
    all_goals have m2 : ¬ (decide ((100000000 : Int) < m) = true) := by simp; omega
    all_goals have pos : (0 : Int) < 2147483647 := by decide
    all_goals refine ⟨_, rfl, _, _, rfl, rfl, _, rfl, iteF' m2 ?_⟩
    all_goals refine ⟨_, rfl, _, _, _, _, rfl, rfl, SqL.of upd_same, rfl, _, _, rfl, rfl, .inr ⟨by decide, by decide⟩, _, rfl, _, _, _, _, rfl, rfl, SqL.of upd_same, rfl, _, _, rfl, rfl, .inr ⟨by decide, by decide⟩, _, _, rfl, rfl, _, _, rfl, rfl, .inl ⟨_, rfl, _, _, rfl, rfl, pos, _, rfl, _, _, _, _, rfl, rfl, upd_same, rfl, ?_⟩⟩
    all_goals refine ⟨_, rfl, _, _, _, _, rfl, rfl, SqL.of upd_same, rfl, _, _, rfl, rfl, _, rfl, _, _, _, _, rfl, rfl, upd_same, rfl, ?_⟩
    all_goals refine ⟨_, rfl, _, _, _, _, rfl, rfl, SqL.of upd_same, rfl, _, _, rfl, rfl, ⟨by decide, by decide⟩, .inl ⟨_, rfl, _, rfl, _, _, rfl, rfl, hm, ?_⟩⟩
    all_goals rw [upd_upd, upd_upd]
    all_goals exact k1 _ _ (Int.emod_nonneg _ (by omega)) (Int.emod_lt_of_pos _ hm) ⟨_, _, _, rfl⟩
end
/-- what is read of the script -/
def intsV (xs : List V) : Prop := ∀ x ∈ xs, ∃ n : Int, x = .int n
/-- nothing but a table may have stood there -/
def Fresh (H : Hp) (D : Addr) : Prop := ∀ u, H D = some u → ∃ ps, u = .tbl ps
theorem fresh_of {T : Tb} {H G : Hp} {D : Addr} (g : Go T H G) (hD : G D = none) : Fresh H D := fun u e => by
  refine Classical.byContradiction fun n => ?_
  have := g.1 D u e (fun ps z => n ⟨ps, z⟩) (by simp)
  rw [hD] at this
  cases this
theorem fresh_none {H : Hp} {D : Addr} (h : H D = none) : Fresh H D := fun u e => by rw [h] at e; cases e
/-- what is new may be written over -/
theorem go_put {T : Tb} {H G : Hp} {D : Addr} {o u : HO} (g : Go T H G) (fr : Fresh H D) (e : G D = some u) (n : ∀ ps, u ≠ .tbl ps := by intro _ z; cases z) (n2 : ∀ φ, u ≠ .ext φ := by intro _ z; cases z) (n3 : ∀ xs, u ≠ .tup xs := by intro _ z; cases z) : Go T H (upd G D o) := by
  have w := go_set (S := [D]) (o := o) g.2 e ⟨n, n2, n3⟩ (by simp)
  refine ⟨fun b v eb nb _ => ?_, w.2⟩
  have hb : b ≠ D := fun z => by
    rw [z] at eb
    obtain ⟨ps, q⟩ := fr v eb
    exact nb ps q
  rw [upd_ne hb]
  exact g.1 b v eb nb (by simp)
def spRounds (K : PySem.W.Frag) (T : Tb) : Sp := fun vs H Q _ => ∃ a xs, vs = [.ref a, .int 1] ∧ SqL K H a xs ∧ intsV xs ∧ TOk T H ∧ ∀ H' l d, Go T H H' → H' l = some (.lst [.ref d]) → DiceAt H' d → l ≠ d → Q (.ref l) H'
section
variable {P : Program} {w : World} {K : PySem.W.Frag} {mg : Str → Option Value} {base : Heap} {T : Tb}
theorem scRu : FnScope ["script", "most", "cells", "cell"] ["script", "most"] (defScope sRounds) := ⟨rfl, rfl, rfl, by decide +kernel, rfl, by decide +kernel, by decide +kernel⟩
theorem ok_rounds {f fD : Addr} {fd fdD : FuncData} (F : Fun K "_law_rounds" "_law_rounds" sRounds f fd) (X : Tx K mg) (GD : FnOk P w K mg base CX0 1 fD fdD ["cell"] spDice) (mD : mg "_law_dice" = some (.ref fD))
    (kD : PySem.W.keepIn K (.ref fD) = true) (bD : Binds K fdD ["cell"] []) : FnOk P w K mg base CX0 2 f fd ["script", "most"] (spRounds K T) := by
  refine F.ok scRu (fun vs H Q E h => ?_) (fun cdv A outer s H vs Q E hr h => ?_)
  · obtain ⟨a, xs, rfl, _⟩ := h
    rfl
  · obtain ⟨a, xs, rfl, hx, hi, tk, k1⟩ := h
    refine ⟨_, pss_cons (ps_set (i := 2) scRu.nd rfl (Or.inl rfl) (pe_slice sl_list (pv 0) po_none (po_some (pv 1))))
      (pss_cons (ps_if (pt_cmpR (op_eqD hr.units) (pv 2) (pe_lst pa_nil) (nomark _)) (pss_one (ps_set (i := 2) scRu.nd rfl (Or.inl rfl) (pe_lst (pa_cons pe_int pa_nil)))) pss_nil)
      (pss_one (ps_ret (pe_lc (own := [("cell", 3)]) (g := gName 3) (tt := tYes) rfl scRu.nd (pi_list (pv 2)) (blkOk_by (N := ["script", "most", "cells", "cell"]) (sc := defScope sRounds) (by decide +kernel)) (fun _ _ _ _ _ => pg_name (i := 3) scRu.nd rfl (Or.inl rfl)) (fun _ _ _ _ _ => pts_nil)
        (fun _ _ _ _ _ => pe_call GD hr rfl mD kD bD .nil pass0 (pa_cons (pv 3) pa_nil)))))), ?_⟩
    refine ⟨_, rfl, _, rfl, _, rfl, _, _, rfl, hx, fun p hp => ?_⟩
    have ecut : cutV xs none (some 1) = xs.take 1 := by
      unfold cutV HT.sIx
      simp
    have g1 : Go T H (upd H p (.lst (xs.take 1))) := go_upd tk hp
    show (_ : Prop)
    rw [ecut]
    refine ⟨_, rfl, by decide, fun q hq => ?_⟩
    have g2 := g1.trans (go_upd (o := .lst []) g1.2 hq)
    have hpq : q ≠ p := fun e => by rw [e, upd_same] at hq; cases hq
    have e1 : ∀ v, upd (upd H p (.lst (xs.take 1))) q v p = some (.lst (xs.take 1)) := fun v => by rw [upd_ne (Ne.symm hpq), upd_same]
    have last : ∀ (n : Int) (G : Hp) (c : Addr), Go T H G → G c = some (.lst [.int n]) → tLc (iList K (tVar 2)) (gName 3) tYes (tCall spDice [] E0 (tCons (tVar 3) tNil)) [3] [some (.ref a), some (.int 1), some (.ref c), none] G Q := fun n G c g e => by
      refine ⟨_, rfl, c, rfl, ⟨_, SqL.of e⟩, fun D hD => lc_list (xs := [.int n]) (fun i G' => Go T H G' ∧ G' c = some (.lst [.int n]) ∧ ∃ acc, G' D = some (.lst acc) ∧ (i = 0 ∧ acc = [] ∨ i = 1 ∧ ∃ d, acc = [.ref d] ∧ DiceAt G' d ∧ D ≠ d)) ?_ ?_ ?_ ?_⟩
      · exact ⟨g.trans (go_upd g.2 hD), by rw [upd_ne (ne_of_none e hD)]; exact e, [], upd_same, .inl ⟨rfl, rfl⟩⟩
      · intro i G' _ h
        exact SqL.of h.2.1
      · intro i x G' hix h
        obtain ⟨g', e', acc, ea, hh⟩ := h
        rcases hh with ⟨rfl, rfl⟩ | ⟨rfl, d, rfl, _, _⟩
        · cases hix
          refine ⟨rfl, _, rfl, n, rfl, fun l a' b' c' hl => ?_⟩
          have hlD : D ≠ l := fun z => by rw [← z, ea] at hl; cases hl
          have hlc : c ≠ l := fun z => by rw [← z, e'] at hl; cases hl
          have hcD : c ≠ D := fun z => by rw [z, hD] at e; cases e
          refine ⟨[], by rw [upd_ne hlD]; exact ea, by decide, ?_, ?_, ?_⟩
          · exact go_put (g'.trans (go_upd g'.2 hl)) (fresh_of g hD) (by rw [upd_ne hlD]; exact ea)
          · rw [upd_ne hcD, upd_ne hlc]
            exact e'
          · exact ⟨_, upd_same, .inr ⟨rfl, l, rfl, ⟨_, by rw [upd_ne (Ne.symm hlD)]; exact upd_same, _, _, _, rfl⟩, hlD⟩⟩
        · cases hix
      · intro G' h
        obtain ⟨g', e', acc, ea, hh⟩ := h
        rcases hh with ⟨h0, _⟩ | ⟨_, d, rfl, hd, hne⟩
        · cases h0
        · exact k1 _ _ _ g' ea hd hne
    cases xs with
    | nil =>
      refine ⟨_, _, .lst (SqL.of (e1 _)) .nil, .lst (SqL.of upd_same) .nil, by decide, by decide, _, rfl, ?_⟩
      refine iteT ⟨by decide, fun r hr' => ?_⟩
      exact last 0 _ r (g2.trans (go_upd g2.2 hr')) upd_same
    | cons x0 xr =>
      obtain ⟨n, rfl⟩ := hi x0 (List.mem_cons_self ..)
      refine ⟨_, _, .lst (SqL.of (e1 _)) (.cons (.int n) .nil), .lst (SqL.of upd_same) .nil, rfl, by decide, _, rfl, ?_⟩
      refine iteF ?_
      exact last n _ p g2 (e1 _)
end
end R
end Text_R2
section Text_R3
set_option Elab.async false
set_option linter.all false
set_option maxRecDepth 100000
set_option maxHeartbeats 4000000
namespace R
open PySem PySem.Spec PyProof.Rows L2 Gx GxR
/-! fits, in plain words -/
def starL (f : List Nat → Bool) : List Nat → Bool
  | [] => f []
  | d :: q => f (d :: q) || (!decide (d = 47) && starL f q)
def fitL : List Nat → List Nat → Bool
  | [], q => q.isEmpty
  | c :: p, q => match c, p with
    | 42, 42 :: p2 => (List.range (q.length + 1)).any fun k => fitL p2 (q.drop k)
    | 42, p => starL (fitL p) q
    | c, p => match q with
      | [] => false
      | d :: q2 => !(decide (c = 63) && decide (d = 47)) && (decide (c = 63) || decide (c = d)) && fitL p q2
def fitS (p q : Str) : Bool := fitL p.cps.toList q.cps.toList
theorem tl_len (z : Str) : z.cps.toList.length = z.length := by rw [Array.length_toList]; rfl
theorem cutd (z : Str) (k : Nat) : (cutS z (some (k : Int)) none).cps.toList = z.cps.toList.drop k := by
  unfold cutS
  rw [HT.sIx_nat, HT.sIx_none]
  show ((z.cps.toList.drop (min k z.length)).take (z.length - min k z.length)).toArray.toList = _
  have h : min k z.length = k ∨ z.length ≤ k := by omega
  rw [List.take_of_length_le (by rw [List.length_drop, tl_len]; exact Nat.le_refl _)]
  rcases h with h | h
  · rw [h]
  · rw [Nat.min_eq_right h, List.drop_of_length_le (by rw [tl_len]; exact Nat.le_refl _), List.drop_of_length_le (by rw [tl_len]; exact h)]
theorem cutI (z : Str) (i : Nat) : (cutS z (some (0 + (i : Int))) none).cps.toList = z.cps.toList.drop i := by
  rw [Int.zero_add]
  exact cutd z i
theorem cut1 (z : Str) : (cutS z (some 1) none).cps.toList = z.cps.toList.drop 1 := cutd z 1
theorem cut2 (z : Str) : (cutS z (some 2) none).cps.toList = z.cps.toList.drop 2 := cutd z 2
theorem fit_cut (p q : Str) (a b : Nat) : fitS (cutS p (some (a : Int)) none) (cutS q (some (b : Int)) none) = fitL (p.cps.toList.drop a) (q.cps.toList.drop b) := by
  unfold fitS
  rw [cutd, cutd]
theorem str_ext {x y : Str} (h : x.cps.toList = y.cps.toList) : x = y := by
  cases x
  cases y
  exact congrArg Str.mk (Array.toList_inj.mp h)
theorem str_nil (z : Str) : z = Str.ofString "" ↔ z.cps.toList = [] := ⟨fun h => by rw [h]; rfl, fun h => str_ext h⟩
theorem starts2 (z : Str) : Txt.startswith z "**" = true ↔ ∃ p, z.cps.toList = 42 :: 42 :: p := by
  unfold Txt.startswith
  rw [PySem.StrLaws.subAt_eq]
  have e2 : (Str.ofString "**").length = 2 := by decide
  have l2 : (Str.ofString "**").cps.toList = [42, 42] := by decide
  rw [e2, l2, List.drop_zero, ← tl_len]
  match z.cps.toList with
  | [] => simp
  | [a] => simp
  | a :: b :: r => simp
/-- a sign's text -/
theorem one_eq {c d : Nat} : V.str ⟨#[c]⟩ = V.str ⟨#[d]⟩ ↔ c = d := by
  constructor
  · intro h
    have := V.str.inj h
    simpa using this
  · rintro rfl
    rfl
theorem at0 {l : List Nat} {c : Nat} {r : List Nat} (h : l = c :: r) : atI l 0 = some c := by
  rw [h]
  exact atI_nat (j := 0) (xs := c :: r) rfl
theorem fit_ss (p q : List Nat) : fitL (42 :: 42 :: p) q = (List.range (q.length + 1)).any fun k => fitL p (q.drop k) := by rw [fitL]
theorem fit_s {p : List Nat} (h : ∀ r, p ≠ 42 :: r) (q : List Nat) : fitL (42 :: p) q = starL (fitL p) q := by
  rw [fitL]
  exact h
theorem fit_c0 {c : Nat} (h : c ≠ 42) (p : List Nat) : fitL (c :: p) [] = false := by
  rw [fitL]
  · exact fun z => absurd z h
  · exact fun p2 z _ => absurd z h
theorem fit_c {c : Nat} (h : c ≠ 42) (p : List Nat) (d : Nat) (q : List Nat) : fitL (c :: p) (d :: q) = (!(decide (c = 63) && decide (d = 47)) && (decide (c = 63) || decide (c = d)) && fitL p q) := by
  rw [fitL]
  · exact fun z => absurd z h
  · exact fun p2 z _ => absurd z h
/-! fits, walked -/
def spFits (T : Tb) (n : Nat) : Sp := fun vs H Q _ => ∃ p q, vs = [.str p, .str q] ∧ p.cps.toList.length ≤ n ∧ n ≤ 1000 ∧ q.cps.toList.length ≤ 1000 ∧ TOk T H ∧ ∀ H', Go T H H' → Q (.bl (fitS p q)) H'
abbrev NF : List Str := ["pattern", "path", "at"]
theorem scF : FnScope NF ["pattern", "path"] (defScope sFits) := ⟨rfl, rfl, rfl, by decide +kernel, rfl, by decide +kernel, by decide +kernel⟩
theorem line1 {z : Str} {n : Nat} (h : z.cps.toList.length ≤ n) (hn : n ≤ 1000) : z.length ≤ sizeLine := by
  rw [← tl_len, sizeLine_eq]
  omega
section
variable {P : Program} {w : World} {K : PySem.W.Frag} {mg : Str → Option Value} {base : Heap} {T : Tb}
theorem fits_step {f c : Addr} {fd : FuncData} {k n : Nat} {sp : Sp} (F : FunC K "fits" "fits" sFits f c fd) (X : Tx K mg) (bf : TabB base mg c T.f) (mF : mg "fits" = some (.ref f)) (bF : Binds K fd ["pattern", "path"] [])
    (G : FnOk P w K mg base CX0 k f fd ["pattern", "path"] sp) (hs : ∀ p q H Q E, p.cps.toList.length < n → n ≤ 1000 → q.cps.toList.length ≤ 1000 → TOk T H → (∀ H', Go T H H' → Q (.bl (fitS p q)) H') → sp [.str p, .str q] H Q E) :
    FnOk P w K mg base CX0 (k + 2) f fd ["pattern", "path"] (spFits T n) := by
  refine F.ok scF (fun vs H Q E h => ?_) (fun A outer s H vs Q E hr h => ?_)
  · obtain ⟨p, q, rfl, _⟩ := h
    rfl
  · obtain ⟨p, q, rfl, hp, hn, hq, tk, k1⟩ := h
    have hr1 : Room k (A.deeper (envOfC "fits" (defScope sFits) s.heap.objs.size f (.ref c))) := hr.mono (Nat.le_succ k)
    refine ⟨_, pss_cons (ps_if (pt_cmpR op_eq (pv 0) pe_str (nomark _)) (pss_one (ps_ret (pe_cmpR op_eq (pv 1) pe_str (nomark _)))) pss_nil)
      (pss_cons (ps_if (pt_val (pe_m1 PySem.F.slot_str_startswith PySem.F.type_str_startswith mt_startswith (pv 0) pe_str))
        (pss_one (ps_ret (pe_anyC (own := [("at", 2)]) (k := k) hr rfl X.any ⟨_, bf.bm⟩ (mkC_base bf rfl) scF.nd (gOkC_by (N := NF) (sc := defScope sFits) (by decide +kernel)) (pi_range1 rfl X.range (pa_cons (pe_op op_add (pe_callB call_len_str (by rfl) X.len PySem.boot_len (pa_cons (pv 1) pa_nil)) pe_int) pa_nil))
          ⟨fun _ _ _ _ _ _ _ _ => pg_name (i := 2) scF.nd rfl (Or.inl rfl), fun _ _ _ _ _ _ _ _ => pts_nil, fun _ _ _ _ _ _ _ hr' => pe_call G hr' rfl mF F.kp bF .nil pass0 (pa_cons (pe_slice sl_str (pv 0) (po_some pe_int) po_none) (pa_cons (pe_slice sl_str (pv 1) (po_some (pv 2)) po_none) pa_nil))⟩))) pss_nil)
      (pss_cons (ps_if (pt_cmpR op_eq (pe_ix ix_str (pv 0) pe_int (fun _ _ => rfl)) pe_str (nomark _))
        (pss_cons (ps_set (i := 2) scF.nd rfl (Or.inl rfl) pe_int)
        (pss_one (ps_while PassesOwn.never (pt_val pe_bl)
          (pss_cons (ps_if (pt_val (pe_call G hr1 rfl mF F.kp bF .nil pass0 (pa_cons (pe_slice sl_str (pv 0) (po_some pe_int) po_none) (pa_cons (pe_slice sl_str (pv 1) (po_some (pv 2)) po_none) pa_nil)))) (pss_one (ps_ret pe_bl)) pss_nil)
          (pss_cons (ps_if (PW.pt (pw_or (pt_cmpR op_eq (pv 2) (pe_callB call_len_str (by rfl) X.len PySem.boot_len (pa_cons (pv 1) pa_nil)) (nomark _)) (pw_or1 (pt_cmpR op_eq (pe_ix ix_str (pv 1) (pv 2) (fun _ _ => rfl)) pe_str (nomark _))))) (pss_one (ps_ret pe_bl)) pss_nil)
          (pss_one (ps_aug (i := 2) scF.nd rfl (Or.inl rfl) pe_int ip_add))))))) pss_nil)
      (pss_cons (ps_if (PW.pt (pw_or (pt_cmpR op_eq (pv 1) pe_str (nomark _)) (pw_or (PW.pt (pw_and (pt_cmpR op_eq (pe_ix ix_str (pv 0) pe_int (fun _ _ => rfl)) pe_str (nomark _)) (pw_and1 (pt_cmpR op_eq (pe_ix ix_str (pv 1) pe_int (fun _ _ => rfl)) pe_str (nomark _)))))
          (pw_or1 (pt_cmpR op_notIn_seq (pe_ix ix_str (pv 0) pe_int (fun _ _ => rfl)) (pe_tup (pa_cons pe_str (pa_cons (pe_ix ix_str (pv 1) pe_int (fun _ _ => rfl)) pa_nil))) (by rfl)))))) (pss_one (ps_ret pe_bl)) pss_nil)
      (pss_one (ps_ret (pe_call G hr1 rfl mF F.kp bF .nil pass0 (pa_cons (pe_slice sl_str (pv 0) (po_some pe_int) po_none) (pa_cons (pe_slice sl_str (pv 1) (po_some pe_int) po_none) pa_nil)))))))), ?_⟩
    have hpl := line1 hp hn
    have hql := line1 hq (Nat.le_refl _)
    have big : ((q.cps.toList.length : Int) + 1).toNat = q.cps.toList.length + 1 := by omega
    refine ⟨_, rfl, rfl, _, rfl, ite2 (fun e => ?_) (fun e => ?_)⟩
    · -- an empty pattern
      have e1 : p.cps.toList = [] := (str_nil p).mp (V.str.inj (of_decide_eq_true e))
      refine ⟨_, rfl, rfl, ?_⟩
      have e2 : decide (V.str q = V.str "") = fitS p q := by
        unfold fitS
        rw [e1]
        show _ = q.cps.toList.isEmpty
        rw [Bool.eq_iff_iff, decide_eq_true_iff, List.isEmpty_iff]
        exact ⟨fun z => (str_nil q).mp (V.str.inj z), fun z => congrArg V.str ((str_nil q).mpr z)⟩
      rw [e2]
      exact k1 _ (GoE.refl tk)
    · have e1 : p.cps.toList ≠ [] := fun z => e (decide_eq_true (congrArg V.str ((str_nil p).mpr z)))
      refine ⟨_, rfl, ⟨_, rfl⟩, _, _, rfl, rfl, _, rfl, ite2 (fun e2 => ?_) (fun e2 => ?_)⟩
      · -- **
        obtain ⟨p2, ep⟩ := (starts2 p).mp e2
        refine ⟨_, rfl, _, rfl, hql, _, _, rfl, rfl, _, rfl, (by have := hq; show -(2 ^ 62 : Int) ≤ (q.length : Int) + 1; omega), (by have := hq; rw [tl_len] at this; show (q.length : Int) + 1 < 2 ^ 62; omega), tk.f, fun H2 cd tb => ?_⟩
        have g2 : Go T H H2 := tk.fx tb
        have el : (((q.length : Int) + 1).toNat) = q.cps.toList.length + 1 := by rw [tl_len]; omega
        have hfit : fitS p q = (List.range (q.cps.toList.length + 1)).any fun k => fitL p2 (q.cps.toList.drop k) := by
          unfold fitS
          rw [ep, fit_ss]
        refine turns_of (q.cps.toList.length + 1) (fun i G => Go T H G ∧ ∀ j, j < i → fitL p2 (q.cps.toList.drop j) = false) ⟨g2, fun j hj => absurd hj (Nat.not_lt_zero j)⟩ (fun G h => ⟨Nat.le_of_eq el, ?_⟩) (fun i G hi h => ⟨Nat.lt_of_lt_of_eq hi el.symm, fun x G' y => ?_⟩)
        · have e5 : fitS p q = false := by
            rw [hfit, List.any_eq_false]
            intro j hj
            rw [h.2 j (List.mem_range.mp hj)]
            exact Bool.false_ne_true
          rw [← e5]
          exact k1 G h.1
        · obtain ⟨rfl, rfl⟩ := y
          refine ⟨wipe_one, _, rfl, 2, rfl, p, rfl, hpl, _, rfl, _, rfl, _, rfl, q, rfl, hql, hs _ _ _ _ _ ?_ hn ?_ h.1.2 fun G2 g3 => ⟨_, rfl, ?_⟩⟩
          · rw [cut2, ep]
            rw [ep] at hp
            exact Nat.lt_of_lt_of_le (by show p2.length < p2.length + 1 + 1; omega) hp
          · rw [cutI, List.length_drop]
            omega
          · have ef : fitS (cutS p (some 2) none) (cutS q (some (0 + (i : Int))) none) = fitL p2 (q.cps.toList.drop i) := by
              unfold fitS
              rw [cutI, cut2, ep]
              rfl
            rw [ef]
            by_cases hb : fitL p2 (q.cps.toList.drop i) = false
            · rw [if_pos hb]
              refine ⟨h.1.trans g3, fun j hj => ?_⟩
              rcases Nat.lt_or_ge j i with z | z
              · exact h.2 j z
              · rw [show j = i from by omega]
                exact hb
            · rw [if_neg hb]
              have e5 : fitS p q = true := by
                rw [hfit, List.any_eq_true]
                exact ⟨i, List.mem_range.mpr hi, by simpa using hb⟩
              show Q (.bl true) G2
              rw [← e5]
              exact k1 G2 (h.1.trans g3)
      · obtain ⟨c0, p2, ep⟩ : ∃ c0 p2, p.cps.toList = c0 :: p2 := by
          match h : p.cps.toList, e1 with
          | c0 :: p2, _ => exact ⟨c0, p2, rfl⟩
        refine ⟨_, rfl, p, 0, c0, rfl, rfl, hpl, at0 ep, rfl, _, rfl, ite2 (fun e3 => ?_) (fun e3 => ?_)⟩
        · -- *
          have ec : c0 = 42 := one_eq.mp (of_decide_eq_true e3)
          subst ec
          have hn2 : ∀ r, p2 ≠ 42 :: r := fun r z => e2 ((starts2 p).mpr ⟨r, by rw [ep, z]⟩)
          have hfit : fitS p q = starL (fitL p2) q.cps.toList := by
            unfold fitS
            rw [ep, fit_s hn2]
          refine ⟨fun m σ G => ∃ i, i + m = q.cps.toList.length ∧ σ = [some (.str p), some (.str q), some (.int (i : Int))] ∧ Go T H G ∧ fitS p q = starL (fitL p2) (q.cps.toList.drop i), ⟨q.cps.toList.length, 0, Nat.zero_add _, rfl, GoE.refl tk, hfit⟩, ?_⟩
          rintro m σ G ⟨i, hi, rfl, g, hf⟩
          refine ⟨_, rfl, iteT ?_⟩
          have hil : i ≤ q.cps.toList.length := by omega
          refine ⟨fun σ' G' => ∃ m', m' < m ∧ ∃ i, i + m' = q.cps.toList.length ∧ σ' = [some (.str p), some (.str q), some (.int (i : Int))] ∧ Go T H G' ∧ fitS p q = starL (fitL p2) (q.cps.toList.drop i), fun σ' G' w => w, ?_⟩
          -- if fits(pattern[1:], path[at:])
          refine ⟨_, rfl, 1, rfl, p, rfl, hpl, _, rfl, _, rfl, (i : Int), rfl, q, rfl, hql, hs _ _ _ _ _ ?_ hn ?_ g.2 fun G2 g2 => ⟨_, rfl, ?_⟩⟩
          · rw [cut1, ep]
            rw [ep] at hp
            exact Nat.lt_of_lt_of_le (by show p2.length < p2.length + 1; omega) hp
          · rw [cutd, List.length_drop]
            omega
          have ef : fitS (cutS p (some 1) none) (cutS q (some (i : Int)) none) = fitL p2 (q.cps.toList.drop i) := by
            unfold fitS
            rw [cutd q i, cut1, ep]
            rfl
          have g3 := g.trans g2
          rw [ef]
          refine ite2 (fun e4 => ?_) (fun e4 => ?_)
          · -- return True
            have e5 : fitS p q = true := by
              rw [hf]
              cases hd : q.cps.toList.drop i with
              | nil => rw [hd] at e4; exact e4
              | cons d r =>
                rw [hd] at e4
                show (fitL p2 (d :: r) || _) = true
                rw [e4]
                rfl
            show Q (.bl true) G2
            rw [← e5]
            exact k1 G2 g3
          · -- if at == len(path) or path[at] == "/"
            have e6 : fitL p2 (q.cps.toList.drop i) = false := by simpa using e4
            refine ⟨_, rfl, _, rfl, _, rfl, hql, rfl, _, rfl, orR (fun e7 => ?_) (fun e7 => ?_)⟩
            · -- at the end
              have e8 : (i : Int) = (q.length : Int) := V.int.inj (of_decide_eq_true e7)
              have e9 : fitS p q = false := by
                rw [hf]
                rw [List.drop_of_length_le (by rw [tl_len]; omega)] at e6 ⊢
                exact e6
              refine iteT ?_
              show Q (.bl false) G2
              rw [← e9]
              exact k1 G2 g3
            · have hne : i < q.cps.toList.length := by
                have : ¬ ((i : Int) = (q.length : Int)) := fun z => (of_decide_eq_false e7) (congrArg V.int z)
                rw [tl_len] at hil ⊢
                omega
              have eg : q.cps.toList.drop i = q.cps.toList[i] :: q.cps.toList.drop (i + 1) := List.drop_eq_getElem_cons hne
              refine ⟨_, rfl, _, rfl, q, (i : Int), q.cps.toList[i], rfl, rfl, hql, atI_nat (List.getElem?_eq_getElem hne), rfl, _, rfl, ?_⟩
              refine ite2 (fun e8 => ?_) (fun e8 => ?_)
              · have ed : q.cps.toList[i] = 47 := one_eq.mp (of_decide_eq_true e8)
                have e9 : fitS p q = false := by
                  rw [hf]
                  rw [eg] at e6 ⊢
                  show (fitL p2 _ || (!decide (q.cps.toList[i] = 47) && _)) = false
                  rw [e6, ed]
                  rfl
                show Q (.bl false) G2
                rw [← e9]
                exact k1 G2 g3
              · have nd : q.cps.toList[i] ≠ 47 := fun z => e8 (decide_eq_true (one_eq.mpr z))
                refine ⟨_, rfl, _, _, rfl, rfl, m - 1, by omega, i + 1, by omega, rfl, g3, ?_⟩
                rw [hf]
                rw [eg] at e6 ⊢
                show (fitL p2 _ || (!decide (q.cps.toList[i] = 47) && starL (fitL p2) (q.cps.toList.drop (i + 1)))) = _
                rw [e6, decide_eq_false nd]
                rfl
        · have nc : c0 ≠ 42 := fun z => e3 (decide_eq_true ((one_eq (d := 42)).mpr z))
          refine ⟨_, rfl, rfl, _, rfl, orR (fun e4 => ?_) (fun e4 => ?_)⟩
          · have eq0 : q.cps.toList = [] := (str_nil q).mp (V.str.inj (of_decide_eq_true e4))
            have e9 : fitS p q = false := by
              unfold fitS
              rw [ep, eq0, fit_c0 nc]
            refine iteT ?_
            show Q (.bl false) H
            rw [← e9]
            exact k1 H (GoE.refl tk)
          · have nq : q.cps.toList ≠ [] := fun z => (of_decide_eq_false e4) (congrArg V.str ((str_nil q).mpr z))
            obtain ⟨d, q2, eq⟩ : ∃ d q2, q.cps.toList = d :: q2 := by
              match h : q.cps.toList, nq with
              | d :: q2, _ => exact ⟨d, q2, rfl⟩
            have hfit : fitS p q = (!(decide (c0 = 63) && decide (d = 47)) && (decide (c0 = 63) || decide (c0 = d)) && fitL p2 q2) := by
              unfold fitS
              rw [ep, eq, fit_c nc]
            have no : fitS p q = false → ∀ G, Go T H G → Q (.bl false) G := fun z G g => by
              rw [← z]
              exact k1 G g
            have w1 : (V.str ⟨#[c0]⟩ = V.str "?") ↔ c0 = 63 := one_eq (d := 63)
            have w2 : (V.str ⟨#[d]⟩ = V.str "/") ↔ d = 47 := one_eq (d := 47)
            have inv : inV (.str ⟨#[c0]⟩) [.str "?", .str ⟨#[d]⟩] = (decide (c0 = 63) || decide (c0 = d)) := by
              show ((((Str.ofString "?") == (⟨#[c0]⟩ : Str)) || (((⟨#[d]⟩ : Str) == (⟨#[c0]⟩ : Str)) || false)) : Bool) = _
              rw [Bool.or_false, Bool.eq_iff_iff, Bool.or_eq_true, Bool.or_eq_true, beq_iff_eq, beq_iff_eq, decide_eq_true_iff, decide_eq_true_iff]
              constructor
              · rintro (z | z)
                · exact .inl (w1.mp (congrArg V.str z.symm))
                · exact .inr (one_eq.mp (congrArg V.str z.symm))
              · rintro (z | z)
                · exact .inl (V.str.inj (w1.mpr z)).symm
                · exact .inr (by rw [z])
            refine ⟨_, rfl, p, 0, c0, rfl, rfl, hpl, at0 ep, rfl, _, rfl, orR (fun e5 => ⟨_, rfl, q, 0, d, rfl, rfl, hql, at0 eq, rfl, _, rfl, orR (fun e6 => iteT ?_) (fun e6 => ?_)⟩) (fun e5 => ?_)⟩
            · refine no ?_ _ (GoE.refl tk)
              rw [hfit, decide_eq_true (w1.mp (of_decide_eq_true e5)), decide_eq_true (w2.mp (of_decide_eq_true e6))]
              rfl
            · have hx : (decide (c0 = 63) && decide (d = 47)) = false := by
                rw [decide_eq_false fun z => (of_decide_eq_false e6) (w2.mpr z), Bool.and_false]
              refine ⟨_, rfl, p, 0, c0, rfl, rfl, hpl, at0 ep, _, rfl, q, 0, d, rfl, rfl, hql, at0 eq, by show 2 ≤ sizeLine; decide, fun t ht => ⟨t, _, rfl, .inr (SqT.of upd_same), rfl, rfl, _, rfl, ?_⟩⟩
              have gt : Go T H (upd H t (.tup [.str "?", .str ⟨#[d]⟩])) := go_upd tk ht
              rw [if_pos rfl, inv]
              refine ite2 (fun e7 => ?_) (fun e7 => ?_)
              · refine no ?_ _ gt
                have e8 : (decide (c0 = 63) || decide (c0 = d)) = false := by simpa using e7
                rw [hfit, e8, Bool.and_false, Bool.false_and]
              · have e8 : (decide (c0 = 63) || decide (c0 = d)) = true := by
                  cases hb : (decide (c0 = 63) || decide (c0 = d)) with
                  | true => rfl
                  | false => exact absurd (by rw [hb]; rfl) e7
                refine ⟨_, rfl, 1, rfl, p, rfl, hpl, _, rfl, 1, rfl, q, rfl, hql, hs _ _ _ _ _ ?_ hn ?_ gt.2 fun G2 g2 => ?_⟩
                · rw [cut1, ep]
                  rw [ep] at hp
                  exact Nat.lt_of_lt_of_le (by show p2.length < p2.length + 1; omega) hp
                · rw [cut1, List.length_drop]
                  omega
                · have ef : fitS (cutS p (some 1) none) (cutS q (some 1) none) = fitS p q := by
                    rw [hfit, hx, e8]
                    unfold fitS
                    rw [cut1, cut1, ep, eq]
                    rfl
                  rw [ef]
                  exact k1 G2 (gt.trans g2)
            · have hx : (decide (c0 = 63) && decide (d = 47)) = false := by
                rw [decide_eq_false fun z => (of_decide_eq_false e5) (w1.mpr z), Bool.false_and]
              refine ⟨_, rfl, p, 0, c0, rfl, rfl, hpl, at0 ep, _, rfl, q, 0, d, rfl, rfl, hql, at0 eq, by show 2 ≤ sizeLine; decide, fun t ht => ⟨t, _, rfl, .inr (SqT.of upd_same), rfl, rfl, _, rfl, ?_⟩⟩
              have gt : Go T H (upd H t (.tup [.str "?", .str ⟨#[d]⟩])) := go_upd tk ht
              rw [if_pos rfl, inv]
              refine ite2 (fun e7 => ?_) (fun e7 => ?_)
              · refine no ?_ _ gt
                have e8 : (decide (c0 = 63) || decide (c0 = d)) = false := by simpa using e7
                rw [hfit, e8, Bool.and_false, Bool.false_and]
              · have e8 : (decide (c0 = 63) || decide (c0 = d)) = true := by
                  cases hb : (decide (c0 = 63) || decide (c0 = d)) with
                  | true => rfl
                  | false => exact absurd (by rw [hb]; rfl) e7
                refine ⟨_, rfl, 1, rfl, p, rfl, hpl, _, rfl, 1, rfl, q, rfl, hql, hs _ _ _ _ _ ?_ hn ?_ gt.2 fun G2 g2 => ?_⟩
                · rw [cut1, ep]
                  rw [ep] at hp
                  exact Nat.lt_of_lt_of_le (by show p2.length < p2.length + 1; omega) hp
                · rw [cut1, List.length_drop]
                  omega
                · have ef : fitS (cutS p (some 1) none) (cutS q (some 1) none) = fitS p q := by
                    rw [hfit, hx, e8]
                    unfold fitS
                    rw [cut1, cut1, ep, eq]
                    rfl
                  rw [ef]
                  exact k1 G2 (gt.trans g2)
theorem fn_false {k : Nat} {f : Addr} {fd : FuncData} {ps : List Str} : FnOk P w K mg base CX0 k f fd ps fun _ _ _ _ => False := ⟨fun _ _ _ _ h => h.elim, fun _ _ _ _ _ _ _ _ _ _ _ _ _ h => h.elim⟩
/-- fits, of patterns of up to n signs -/
theorem ok_fits {f c : Addr} {fd : FuncData} (F : FunC K "fits" "fits" sFits f c fd) (X : Tx K mg) (bf : TabB base mg c T.f) (mF : mg "fits" = some (.ref f)) (bF : Binds K fd ["pattern", "path"] []) :
    ∀ n : Nat, FnOk P w K mg base CX0 (2 * n + 2) f fd ["pattern", "path"] (spFits T n)
  | 0 => fits_step F X bf mF bF (fn_false (k := 0)) fun p q H Q E h _ _ _ _ => absurd h (Nat.not_lt_zero _)
  | n + 1 => fits_step F X bf mF bF (ok_fits F X bf mF bF n) fun p q H Q E h hn hq tk k => ⟨p, q, rfl, by omega, by omega, hq, tk, k⟩
end
end R
end Text_R3
section Text_R4
set_option Elab.async false
set_option linter.all false
set_option maxRecDepth 100000
set_option maxHeartbeats 4000000
namespace R
open PySem PySem.Spec PyProof.Rows L2 Gx GxR
def leS (a b : Str) : Prop := a.cps.toList ≤ b.cps.toList
instance (a b : Str) : Decidable (leS a b) := by unfold leS; infer_instance
theorem leS_refl (a : Str) : leS a a := List.le_refl _
theorem leS_trans {a b c : Str} (h : leS a b) (k : leS b c) : leS a c := List.le_trans h k
theorem leS_total (a b : Str) : leS a b ∨ leS b a := List.le_total _ _
theorem leS_anti {a b : Str} (h : leS a b) (k : leS b a) : a = b := by
  have e := List.le_antisymm h k
  exact str_ext e
theorem le_of_rise {a b : Str} (h : (!ltCps b.cps.toList a.cps.toList) = true) : leS a b := by
  rw [ltCps_eq] at h
  simp at h
  exact h
theorem rise_pw : ∀ (l : List Str) (p : Str), risingS p l = true → (p :: l).Pairwise leS
  | [], p, _ => List.pairwise_singleton ..
  | x :: r, p, h => by
    have h' := Bool.and_eq_true_iff.mp h
    have ih := rise_pw r x h'.2
    have le := le_of_rise h'.1
    refine List.pairwise_cons.mpr ⟨fun y hy => ?_, ih⟩
    rcases List.mem_cons.mp hy with e | hy
    · rw [e]; exact le
    · exact leS_trans le ((List.pairwise_cons.mp ih).1 y hy)
theorem sorted_pw (l : List Str) (h : sortedS l = true) : l.Pairwise leS := by
  cases l with
  | nil => exact List.Pairwise.nil
  | cons x r => exact rise_pw r x h
/-- texts in order -/
def srt (l : List Str) : List Str := l.mergeSort fun a b => decide (leS a b)
theorem srt_pw (l : List Str) : (srt l).Pairwise leS := by
  have := List.pairwise_mergeSort (le := fun a b => decide (leS a b)) (fun a b c h k => decide_eq_true (leS_trans (of_decide_eq_true h) (of_decide_eq_true k))) (fun a b => by
    rcases leS_total a b with h | h
    · simp [h]
    · simp [h]) l
  exact this.imp fun h => of_decide_eq_true h
theorem srt_perm (l : List Str) : (srt l).Perm l := List.mergeSort_perm l _
theorem srt_eq {ys xs : List Str} (p : ys.Perm xs) (h : sortedS ys = true) : ys = srt xs :=
  List.Perm.eq_of_pairwise (le := leS) (fun a b _ _ x y => leS_anti x y) (sorted_pw _ h) (srt_pw _) (p.trans (srt_perm xs).symm)
/-- keys, each once -/
def uniq (xs : List Str) : List Str := xs.foldl (fun l x => if x ∈ l then l else l ++ [x]) []
theorem uniq_snoc (l : List Str) (x : Str) : uniq (l ++ [x]) = if x ∈ uniq l then uniq l else uniq l ++ [x] := by
  unfold uniq
  rw [List.foldl_append]
  rfl
theorem uniq_take {xs : List Str} {i : Nat} {x : Str} (h : xs[i]? = some x) : uniq (xs.take (i + 1)) = if x ∈ uniq (xs.take i) then uniq (xs.take i) else uniq (xs.take i) ++ [x] := by
  rw [List.take_add_one, h]
  exact uniq_snoc _ _
theorem uniq_rev (l : List Str) : (∀ x, x ∈ uniq l.reverse ↔ x ∈ l) ∧ (uniq l.reverse).Nodup ∧ (uniq l.reverse).length ≤ l.length := by
  induction l with
  | nil => exact ⟨fun x => by simp [uniq], List.nodup_nil, Nat.le_refl _⟩
  | cons y r ih =>
    obtain ⟨i1, i2, i3⟩ := ih
    rw [List.reverse_cons, uniq_snoc]
    by_cases h : y ∈ uniq r.reverse
    · rw [if_pos h]
      refine ⟨fun x => ⟨fun m => List.mem_cons_of_mem _ ((i1 x).mp m), fun m => ?_⟩, i2, Nat.le_trans i3 (by simp)⟩
      rcases List.mem_cons.mp m with e | m
      · rw [e]; exact h
      · exact (i1 x).mpr m
    · rw [if_neg h]
      refine ⟨fun x => ?_, nd_snoc i2 h, by simp; omega⟩
      rw [List.mem_append, i1]
      simp [or_comm]
theorem mem_uniq (l : List Str) (x : Str) : x ∈ uniq l ↔ x ∈ l := by
  have := (uniq_rev l.reverse).1 x
  rw [List.reverse_reverse, List.mem_reverse] at this
  exact this
theorem uniq_nd (l : List Str) : (uniq l).Nodup := by
  have := (uniq_rev l.reverse).2.1
  rw [List.reverse_reverse] at this
  exact this
theorem uniq_len (l : List Str) : (uniq l).length ≤ l.length := by
  have := (uniq_rev l.reverse).2.2
  rw [List.reverse_reverse, List.length_reverse] at this
  exact this
/-- a dict of keys to one value -/
def keyTab (v : V) (u : List Str) : List (Key × V) := u.map fun x => (Sum.inr x, v)
theorem put_key (v : V) (u : List Str) (x : Str) : putK (keyTab v u) (Sum.inr x) v = keyTab v (if x ∈ u then u else u ++ [x]) := by
  unfold putK keyTab
  by_cases h : x ∈ u
  · rw [if_pos h, if_pos (by rw [List.any_eq_true]; exact ⟨(Sum.inr x, v), List.mem_map.mpr ⟨x, h, rfl⟩, by simp⟩), List.map_map]
    refine List.map_congr_left fun y _ => ?_
    show (if (Sum.inr y : Key) = Sum.inr x then ((Sum.inr y : Key), v) else (Sum.inr y, v)) = (Sum.inr y, v)
    split <;> rfl
  · rw [if_neg h, if_neg (by
      rw [List.any_eq_true]
      rintro ⟨p, hp, e⟩
      obtain ⟨y, hy, rfl⟩ := List.mem_map.mp hp
      have e' := of_decide_eq_true e
      exact h (by rw [← Sum.inr.inj e']; exact hy)), List.map_append]
    rfl
theorem put_new {κ : Type} [DecidableEq κ] (l : List (κ × V)) (k : κ) (v : V) (h : k ∉ l.map (·.1)) : putK l k v = l ++ [(k, v)] := by
  unfold putK
  rw [if_neg]
  rw [List.any_eq_true]
  rintro ⟨p, hp, e⟩
  exact h (List.mem_map.mpr ⟨p, hp, of_decide_eq_true e⟩)
/-- keys, each once, in order -/
def so (xs : List Str) : List Str := srt (uniq xs)
theorem so_len (xs : List Str) : (so xs).length ≤ xs.length := by
  unfold so
  rw [(srt_perm _).length_eq]
  exact uniq_len xs
theorem mem_so (xs : List Str) (x : Str) : x ∈ so xs ↔ x ∈ xs := by
  unfold so
  rw [(srt_perm _).mem_iff]
  exact mem_uniq xs x
theorem so_nd (xs : List Str) : (so xs).Nodup := by
  unfold so
  exact (srt_perm _).nodup_iff.mpr (uniq_nd xs)
theorem so_pw (xs : List Str) : (so xs).Pairwise leS := srt_pw _
theorem keyTab_keys (v : V) (u : List Str) : (keyTab v u).map (·.1) = u.map Sum.inr := by
  unfold keyTab
  rw [List.map_map]
  rfl
theorem keyTab_len (v : V) (u : List Str) : (keyTab v u).length = u.length := by
  unfold keyTab
  rw [List.length_map]
/-- {x: v for x in xs} of a list of texts -/
theorem dc_uniq {K : PySem.W.Frag} {a : Addr} {xs : List Str} {i : Nat} {v : V} {tv : TE} {σ : L2.St} {H1 : Hp} {D : Addr} {Qd : Hp → Prop} (hi : i < σ.length) (hS : SqL K (upd H1 D (.dK [])) a (xs.map V.str)) (hS2 : ∀ u, SqL K (upd H1 D u) a (xs.map V.str)) (hl : xs.length ≤ 1000)
    (htv : ∀ σ H (Q : VK), Q v H → tv σ H Q) (h : Qd (upd H1 D (.dK (keyTab v (uniq xs))))) :
    ∃ W : Nat → Nat → Hp → Prop, (∃ m, W 0 m (upd H1 D (.dK []))) ∧ ∀ j m H, W j m H →
      ((Itl K a).stop j H ∧ Qd H) ∨ ((Itl K a).go j H ∧ ∃ Nx : Hp → Prop, (∀ H', Nx H' → ∃ m', m' < m ∧ W (j + 1) m' H') ∧ ∀ x H', (Itl K a).yld j H x H' → gName i x (wipe σ [i]) H' fun σ2 H2 => wipe σ2 [i] = wipe σ [i] ∧ tYes σ2 H2 fun b H3 =>
        if b = true then tVar i σ2 H3 fun y H4 => tv σ2 H4 fun z H5 => ∃ kvs k, y = kV k ∧ H5 D = some (.dK kvs) ∧ kvs.length < sizeLine ∧ Nx (upd H5 D (.dK (putK kvs k z))) else Nx H3) := by
  refine dc_list (xs := xs.map V.str) (fun j G => G = upd H1 D (.dK (keyTab v (uniq (xs.take j))))) rfl (fun j G _ e => by rw [e]; exact hS2 _) ?_ (fun G e => ?_)
  · intro j x G hx e
    subst e
    rw [List.getElem?_map] at hx
    cases hj : xs[j]? with
    | none => rw [hj] at hx; cases hx
    | some y =>
      rw [hj] at hx
      obtain rfl := Option.some.inj hx
      refine ⟨wipe_one, .str y, ?_, htv _ _ _ ⟨keyTab v (uniq (xs.take j)), Sum.inr y, (rfl : V.str y = kV (Sum.inr y)), upd_same, ?_, ?_⟩⟩
      · rw [List.getElem?_set_self]
        rw [wipe_length]
        exact hi
      · rw [keyTab_len, sizeLine_eq]
        have h1 := uniq_len (xs.take j)
        have h2 : (xs.take j).length ≤ xs.length := by rw [List.length_take]; omega
        omega
      · rw [upd_upd, put_key, uniq_take hj]
  · subst e
    rw [List.length_map, List.take_length]
    exact h
/-- what is new may change -/
theorem GoE.news {T : Tb} {S : List Addr} {H G0 G : Hp} (h : Go T H G0) (g : GoE T S G0 G) (n : ∀ b ∈ S, Fresh H b) : Go T H G :=
  ⟨fun b o e nt _ => g.1 b o (h.1 b o e nt (.inl (by simp))) nt (.inl fun hb => by
    obtain ⟨ps, e2⟩ := n b hb o e
    exact nt ps e2), g.2⟩
theorem mu_lst {xs : List V} : (∀ ps, HO.lst xs ≠ .tbl ps) ∧ (∀ φ, HO.lst xs ≠ .ext φ) ∧ ∀ ys, HO.lst xs ≠ .tup ys := ⟨(by intro _ z; cases z), (by intro _ z; cases z), (by intro _ z; cases z)⟩
theorem mu_dK {xs : List (Key × V)} : (∀ ps, HO.dK xs ≠ .tbl ps) ∧ (∀ φ, HO.dK xs ≠ .ext φ) ∧ ∀ ys, HO.dK xs ≠ .tup ys := ⟨(by intro _ z; cases z), (by intro _ z; cases z), (by intro _ z; cases z)⟩
theorem mu_ins {C d : Addr} {fs : List (Str × V)} : (∀ ps, HO.ins C d fs ≠ .tbl ps) ∧ (∀ φ, HO.ins C d fs ≠ .ext φ) ∧ ∀ ys, HO.ins C d fs ≠ .tup ys := ⟨(by intro _ z; cases z), (by intro _ z; cases z), (by intro _ z; cases z)⟩
/-- n turns of a consumer, with what holds ahead of each -/
theorem turnsK_of {J : It} {g : TG} {tt : TT} {te : TE} {vs : List Nat} {σ0 : L2.St} {C : Hp → Con} {F : Lef} {Qe : Hp → Prop} {H : Hp} (n : Nat) (Pv : Nat → Hp → Prop) (h0 : Pv 0 H) (hs : ∀ H, Pv n H → J.stop n H ∧ Qe H)
    (hg : ∀ i H, i < n → Pv i H → J.go i H ∧ ∀ x H', J.yld i H x H' → g x σ0 H' fun σ2 H2 => wipe σ2 vs = σ0 ∧ tt σ2 H2 fun b H3 => if b = true then te σ2 H3 fun y H4 => C H y H4 (Pv (i + 1)) else F H H3 (Pv (i + 1))) :
    ∃ W : Nat → Nat → Hp → Prop, (∃ m, W 0 m H) ∧ TurnK J g tt te vs σ0 C F Qe W := by
  refine ⟨fun i m H => i + m = n ∧ Pv i H, ⟨n, Nat.zero_add n, h0⟩, fun i m H w => ?_⟩
  obtain ⟨e, p⟩ := w
  rcases Nat.lt_or_ge i n with hi | hi
  · obtain ⟨a, b⟩ := hg i H hi p
    exact .inr ⟨a, Pv (i + 1), fun H' p' => ⟨m - 1, by omega, by omega, p'⟩, b⟩
  · have e2 : i = n := by omega
    subst e2
    exact .inl (hs H p)
end R
end Text_R4
section Text_R5
set_option Elab.async false
set_option linter.all false
set_option maxRecDepth 100000
set_option maxHeartbeats 4000000
namespace R
open PySem PySem.Spec PyProof.Rows L2 Gx GxR
/-- item by item -/
def All2 {α β : Type} (F : α → β → Prop) (xs : List α) (ys : List β) : Prop := xs.length = ys.length ∧ ∀ (i : Nat) x y, xs[i]? = some x → ys[i]? = some y → F x y
theorem All2.nil {α β : Type} {F : α → β → Prop} : All2 F [] [] := ⟨rfl, fun i x y h => by simp at h⟩
theorem All2.imp {α β : Type} {F G : α → β → Prop} {xs : List α} {ys : List β} (a : All2 F xs ys) (h : ∀ x y, F x y → G x y) : All2 G xs ys := ⟨a.1, fun i x y h1 h2 => h x y (a.2 i x y h1 h2)⟩
theorem All2.snoc {α β : Type} {F : α → β → Prop} {xs : List α} {ys : List β} {x : α} {y : β} (a : All2 F xs ys) (h : F x y) : All2 F (xs ++ [x]) (ys ++ [y]) := by
  obtain ⟨e, k⟩ := a
  refine ⟨by simp [e], fun i u v h1 h2 => ?_⟩
  rcases Nat.lt_trichotomy i xs.length with hi | hi | hi
  · rw [List.getElem?_append_left hi] at h1
    rw [List.getElem?_append_left (by omega)] at h2
    exact k i u v h1 h2
  · rw [List.getElem?_append_right (by omega), hi, Nat.sub_self] at h1
    rw [List.getElem?_append_right (by omega), hi, e, Nat.sub_self] at h2
    simp at h1 h2
    rw [← h1, ← h2]
    exact h
  · rw [List.getElem?_eq_none (by simp; omega)] at h1
    cases h1
theorem All2.at {α β : Type} {F : α → β → Prop} {xs : List α} {ys : List β} {i : Nat} {x : α} (a : All2 F xs ys) (h : xs[i]? = some x) : ∃ y, ys[i]? = some y ∧ F x y := by
  have hi := (List.getElem?_eq_some_iff.mp h).1
  have hj : i < ys.length := by rw [← a.1]; exact hi
  exact ⟨ys[i], List.getElem?_eq_getElem hj, a.2 i _ _ h (List.getElem?_eq_getElem hj)⟩
theorem take_snoc {α : Type} {xs : List α} {i : Nat} {x : α} (h : xs[i]? = some x) : xs.take (i + 1) = xs.take i ++ [x] := by
  rw [List.take_add_one, h]
  rfl
theorem str_at {xs : List Str} {i : Nat} {x : V} (h : (xs.map V.str)[i]? = some x) : ∃ y, xs[i]? = some y ∧ x = .str y := by
  rw [List.getElem?_map] at h
  cases e : xs[i]? with
  | none => rw [e] at h; cases h
  | some y => rw [e] at h; exact ⟨y, rfl, (Option.some.inj h).symm⟩
/-! tables of files -/
abbrev Files := List (Str × Str)
def fk (A : Files) : List (Key × V) := A.map fun p => (Sum.inr p.1, .str p.2)
def lk (A : Files) (p : Str) : Option Str := (A.find? fun q => decide (q.1 = p)).map (·.2)
theorem fk_len (A : Files) : (fk A).length = A.length := by unfold fk; rw [List.length_map]
theorem valV_fk (A : Files) (p : Str) : valV (fk A) (Sum.inr p) = (lk A p).map V.str := by
  unfold valV fk lk
  rw [List.find?_map]
  have e : ((fun q : Key × V => decide (q.1 = Sum.inr p)) ∘ fun q : Str × Str => ((Sum.inr q.1 : Key), V.str q.2)) = fun q : Str × Str => decide (q.1 = p) := by
    funext q
    show decide ((Sum.inr q.1 : Key) = Sum.inr p) = _
    rw [Bool.eq_iff_iff, decide_eq_true_iff, decide_eq_true_iff]
    exact ⟨fun h => Sum.inr.inj h, fun h => by rw [h]⟩
  rw [e]
  cases A.find? fun q => decide (q.1 = p) <;> rfl
def chgOf (A B : Files) (p : Str) : Option (Str × Str) := match lk A p, lk B p with
  | none, _ => some ("come", p)
  | some _, none => some ("gone", p)
  | some x, some y => if x = y then none else some ("other", p)
def paths (A B : Files) : List Str := so (A.map (·.1) ++ B.map (·.1))
def chg (A B : Files) : List (Str × Str) := (paths A B).filterMap (chgOf A B)
/-- a pair of texts -/
def PairAt (H : Hp) (v : V) (r : Str × Str) : Prop := ∃ t, v = .ref t ∧ H t = some (.tup [.str r.1, .str r.2])
theorem PairAt.ext {H H' : Hp} {v : V} {r : Str × Str} (p : PairAt H v r) (e : ExtT H H') : PairAt H' v r := let ⟨t, a, b⟩ := p; ⟨t, a, e _ _ b⟩
def spChg (T : Tb) : Sp := fun vs H Q _ => ∃ a b A B, vs = [.ref a, .ref b] ∧ H a = some (.dK (fk A)) ∧ H b = some (.dK (fk B)) ∧ A.length ≤ 10 ∧ B.length ≤ 10 ∧ TOk T H ∧
  ∀ H' t xs, Go T H H' → H' t = some (.tup xs) → All2 (PairAt H') xs (chg A B) → Q (.ref t) H'
abbrev NC : List Str := ["one", "other", "found", "path"]
theorem scC : FnScope NC ["one", "other"] (defScope sChanges) := ⟨rfl, rfl, rfl, by decide +kernel, rfl, by decide +kernel, by decide +kernel⟩
section
variable {P : Program} {w : World} {K : PySem.W.Frag} {mg : Str → Option Value} {base : Heap} {T : Tb}
theorem ok_chg {f : Addr} {fd : FuncData} (F : Fun K "changes" "changes" sChanges f fd) (X : Tx K mg) : FnOk P w K mg base CX0 1 f fd ["one", "other"] (spChg T) := by
  refine F.ok scC (fun vs H Q E h => ?_) (fun cdv A0 outer s H vs Q E hr h => ?_)
  · obtain ⟨a, b, A, B, rfl, _⟩ := h
    rfl
  · obtain ⟨a, b, A, B, rfl, ha, hb, lA, lB, tk, k1⟩ := h
    have hu := hu_of hr
    refine ⟨_, pss_cons (ps_set (i := 2) scC.nd rfl (Or.inl rfl) (pe_lst pa_nil))
      (pss_cons (ps_for PassesOwn.never rfl (pi_list (pe_callB (call_sortedD rfl) (by rfl) X.sorted (by decide +kernel) (pa_cons (pe_dc (own := [("path", 3)]) (g := gName 3) rfl scC.nd
          (pi_list (pe_op op_cat (pe_callTy (call_listD rfl) (by rfl) X.list (by decide +kernel) (pa_cons (pv 0) pa_nil)) (pe_callTy (call_listD rfl) (by rfl) X.list (by decide +kernel) (pa_cons (pv 1) pa_nil))))
          (blkOk_by (N := NC) (sc := defScope sChanges) (by decide +kernel)) (fun _ _ _ _ _ => pg_name (i := 3) scC.nd rfl (Or.inl rfl)) (fun _ _ _ _ _ => pts_nil) (fun _ _ _ _ _ => pv 3) (fun _ _ _ _ _ => pe_bl)) pa_nil))) (pg_name (i := 3) scC.nd rfl (Or.inl rfl))
        (pss_one (ps_if (pt_cmp (pc_dnotin hu (pv 3) (pv 0)))
          (pss_one (ps_expr (pe_bm PySem.F.plainAttrs_list PySem.F.slot_list_append PySem.F.type_list_append mt_append (pv 2) (pa_cons (pe_tup (pa_cons pe_str (pa_cons (pv 3) pa_nil))) pa_nil))))
          (pss_one (ps_if (pt_cmp (pc_dnotin hu (pv 3) (pv 1)))
            (pss_one (ps_expr (pe_bm PySem.F.plainAttrs_list PySem.F.slot_list_append PySem.F.type_list_append mt_append (pv 2) (pa_cons (pe_tup (pa_cons pe_str (pa_cons (pv 3) pa_nil))) pa_nil))))
            (pss_one (ps_if (pt_cmpR op_ne (pe_dget hu (pv 0) (pv 3) (fun _ _ => rfl)) (pe_dget hu (pv 1) (pv 3) (fun _ _ => rfl)) (nomark _))
              (pss_one (ps_expr (pe_bm PySem.F.plainAttrs_list PySem.F.slot_list_append PySem.F.type_list_append mt_append (pv 2) (pa_cons (pe_tup (pa_cons pe_str (pa_cons (pv 3) pa_nil))) pa_nil)))) pss_nil)))))))
      (pss_one (ps_ret (pe_callTy call_tuple_of (by rfl) X.tuple (by decide +kernel) (pa_cons (pv 2) pa_nil))))), ?_⟩
    refine ⟨by decide, fun l hl => ?_⟩
    have h1 : Go T H (upd H l (.lst [])) := go_upd tk hl
    have ha := h1.at ha
    have hb := h1.at hb
    have el1 : upd H l (.lst []) l = some (.lst []) := upd_same
    generalize upd H l (.lst []) = H1 at h1 ha hb el1 ⊢
    have g1 : Go T H1 H1 := GoE.refl h1.2
    refine ⟨_, rfl, a, fk A, rfl, Rd.of (g1.at ha), fun p hp => ⟨_, rfl, b, fk B, rfl, ?_⟩⟩
    have g2 := g1.trans (go_upd (o := .lst ((fk A).map fun kv => kV kv.1)) g1.2 hp)
    refine ⟨Rd.of (g2.at hb), fun q hq => ?_⟩
    have g3 := g2.trans (go_upd (o := .lst ((fk B).map fun kv => kV kv.1)) g2.2 hq)
    have hpq : p ≠ q := fun e => by rw [← e, upd_same] at hq; cases hq
    refine ⟨p, q, _, _, rfl, rfl, by rw [upd_ne hpq]; exact upd_same, upd_same, by rw [List.length_map, List.length_map, fk_len, fk_len, sizeLine_eq]; omega, fun r hr => ?_⟩
    have g4 := g3.trans (go_upd (o := .lst (((fk A).map fun kv => kV kv.1) ++ (fk B).map fun kv => kV kv.1)) g3.2 hr)
    have ek : (((fk A).map fun kv => kV kv.1) ++ (fk B).map fun kv => kV kv.1) = (A.map (·.1) ++ B.map (·.1)).map V.str := by
      unfold fk
      rw [List.map_map, List.map_map, List.map_append, List.map_map, List.map_map]
      rfl
    rw [ek] at g4 ⊢
    refine ⟨r, rfl, ⟨_, SqL.of upd_same⟩, fun D hD => ?_⟩
    have hrD : r ≠ D := fun e => by rw [← e, upd_same] at hD; cases hD
    refine dc_uniq (i := 3) (xs := A.map (·.1) ++ B.map (·.1)) (by show (3 : Nat) < 4; decide) (SqL.of (by rw [upd_ne hrD]; exact upd_same)) (fun u => SqL.of (by rw [upd_ne hrD]; exact upd_same)) (by rw [List.length_append, List.length_map, List.length_map]; omega) (fun _ _ _ q => q) ?_
    have g5 := g4.trans (go_upd (o := .dK (keyTab (.bl true) (uniq (A.map (·.1) ++ B.map (·.1))))) g4.2 hD)
    have hlen : (uniq (A.map (·.1) ++ B.map (·.1))).length ≤ 20 := by
      refine Nat.le_trans (uniq_len _) ?_
      rw [List.length_append, List.length_map, List.length_map]
      omega
    refine ⟨D, _, uniq (A.map (·.1) ++ B.map (·.1)), rfl, Rd.of upd_same, keyTab_keys _ _, by omega, fun ys S pm sr hS => ?_⟩
    have ey : ys = paths A B := srt_eq pm sr
    subst ey
    have plen : (paths A B).length ≤ 20 := by
      rw [pm.length_eq]
      exact hlen
    have g6 := g5.trans (go_upd (o := .lst ((paths A B).map V.str)) g5.2 hS)
    generalize hG : upd (upd (upd (upd (upd H1 p (.lst ((fk A).map fun kv => kV kv.1))) q (.lst ((fk B).map fun kv => kV kv.1))) r (.lst ((A.map (·.1) ++ B.map (·.1)).map V.str))) D (.dK (keyTab (.bl true) (uniq (A.map (·.1) ++ B.map (·.1)))))) S (.lst ((paths A B).map V.str)) = G0 at g6 ⊢
    have el0 : G0 l = some (.lst []) := g6.at el1
    have eS0 : G0 S = some (.lst ((paths A B).map V.str)) := by rw [← hG]; exact upd_same
    have hlS : l ≠ S := ne_of_none (g5.at el1) hS
    have ha0 := g6.at ha
    have hb0 := g6.at hb
    have h6 := h1.trans g6
    clear hG
    refine ⟨S, rfl, ⟨_, SqL.of eS0⟩, for_list (xs := (paths A B).map V.str) (fun i σ G => GoE T [l] G0 G ∧ (∃ v, σ = [some (.ref a), some (.ref b), some (.ref l), v]) ∧ G S = some (.lst ((paths A B).map V.str)) ∧ ∃ xs, G l = some (.lst xs) ∧ All2 (PairAt G) xs (((paths A B).take i).filterMap (chgOf A B))) ?_ ?_ ?_ ?_⟩
    · exact ⟨GoE.refl g6.2, ⟨none, rfl⟩, eS0, [], el0, All2.nil⟩
    · intro i σ G _ h
      exact SqL.of h.2.2.1
    · intro i x σ G hix h
      obtain ⟨g, ⟨v, rfl⟩, eS, xs, el, al⟩ := h
      obtain ⟨y, hy, rfl⟩ := str_at hix
      have la : a ≠ l := fun e => by rw [e, el0] at ha0; cases ha0
      have lb : b ≠ l := fun e => by rw [e, el0] at hb0; cases hb0
      have ea := g.at ha0 (by simpa using la)
      have eb := g.at hb0 (by simpa using lb)
      have hxl : xs.length ≤ 20 := by
        rw [al.1]
        refine Nat.le_trans (List.length_filterMap_le _ _) ?_
        rw [List.length_take]
        omega
      have st : (paths A B).take (i + 1) = (paths A B).take i ++ [y] := take_snoc hy
      -- found.append((what, path))
      have fin : ∀ (what : Str) (t : Addr), chgOf A B y = some (what, y) → G t = none → GoE T [l] G0 (upd (upd G t (.tup [.str what, .str y])) l (.lst (xs ++ [.ref t]))) ∧ upd (upd G t (.tup [.str what, .str y])) l (.lst (xs ++ [.ref t])) S = some (.lst ((paths A B).map V.str)) ∧
          ∃ xs', upd (upd G t (.tup [.str what, .str y])) l (.lst (xs ++ [.ref t])) l = some (.lst xs') ∧ All2 (PairAt (upd (upd G t (.tup [.str what, .str y])) l (.lst (xs ++ [.ref t])))) xs' (((paths A B).take (i + 1)).filterMap (chgOf A B)) := by
        intro what t hw ht
        have gt : GoE T [l] G (upd G t (.tup [.str what, .str y])) := go_upd g.2 ht
        have el2 : upd G t (.tup [.str what, .str y]) l = some (.lst xs) := by rw [upd_ne (ne_of_none el ht)]; exact el
        have gl : GoE T [l] (upd G t (.tup [.str what, .str y])) (upd (upd G t (.tup [.str what, .str y])) l (.lst (xs ++ [.ref t]))) := go_set gt.2 el2 mu_lst (by simp)
        have gg := gt.trans gl
        have htl : t ≠ l := (ne_of_none el ht).symm
        refine ⟨g.trans gg, gg.at eS (by simpa using hlS.symm), _, upd_same, ?_⟩
        rw [st, List.filterMap_append]
        have e1 : [y].filterMap (chgOf A B) = [(what, y)] := by simp [hw]
        rw [e1]
        exact (al.imp fun x r h => h.ext gg.t).snoc ⟨t, rfl, by rw [upd_ne htl]; exact upd_same⟩
      have no : chgOf A B y = none → All2 (PairAt G) xs (((paths A B).take (i + 1)).filterMap (chgOf A B)) := by
        intro hw
        rw [st, List.filterMap_append]
        have e1 : [y].filterMap (chgOf A B) = [] := by simp [hw]
        rw [e1, List.append_nil]
        exact al
      refine ⟨_, rfl, _, rfl, a, _, rfl, DGet.k (k := Sum.inr y) ea, _, rfl, ?_⟩
      rw [valV_fk]
      cases hA : lk A y with
      | none =>
        refine iteT ⟨_, rfl, .inl ⟨rfl, _, SqL.of el⟩, _, rfl, by show 2 ≤ sizeLine; decide, fun t ht => ⟨l, xs, _, rfl, rfl, (by rw [upd_ne (ne_of_none el ht)]; exact el), (by rw [sizeLine_eq]; omega), ?_⟩⟩
        obtain ⟨f1, f2, f3⟩ := fin "come" t (by unfold chgOf; rw [hA]) ht
        exact ⟨f1, ⟨_, rfl⟩, f2, f3⟩
      | some u =>
        refine iteF ⟨_, rfl, _, rfl, b, _, rfl, DGet.k (k := Sum.inr y) eb, _, rfl, ?_⟩
        rw [valV_fk]
        cases hB : lk B y with
        | none =>
          refine iteT ⟨_, rfl, .inl ⟨rfl, _, SqL.of el⟩, _, rfl, by show 2 ≤ sizeLine; decide, fun t ht => ⟨l, xs, _, rfl, rfl, (by rw [upd_ne (ne_of_none el ht)]; exact el), (by rw [sizeLine_eq]; omega), ?_⟩⟩
          obtain ⟨f1, f2, f3⟩ := fin "gone" t (by unfold chgOf; rw [hA, hB]) ht
          exact ⟨f1, ⟨_, rfl⟩, f2, f3⟩
        | some w' =>
          have dA : DGet G a (.str y) (some (.str u)) := by
            have := DGet.k (k := Sum.inr y) ea
            rw [valV_fk, hA] at this
            exact this
          have dB : DGet G b (.str y) (some (.str w')) := by
            have := DGet.k (k := Sum.inr y) eb
            rw [valV_fk, hB] at this
            exact this
          refine iteF ⟨_, rfl, _, rfl, a, _, rfl, dA, _, rfl, _, rfl, b, _, rfl, dB, rfl, _, rfl, ite2 (fun e => ?_) (fun e => ?_)⟩
          · refine ⟨_, rfl, .inl ⟨rfl, _, SqL.of el⟩, _, rfl, by show 2 ≤ sizeLine; decide, fun t ht => ⟨l, xs, _, rfl, rfl, (by rw [upd_ne (ne_of_none el ht)]; exact el), (by rw [sizeLine_eq]; omega), ?_⟩⟩
            have ne : u ≠ w' := fun z => by rw [z] at e; simp at e
            obtain ⟨f1, f2, f3⟩ := fin "other" t (by unfold chgOf; rw [hA, hB]; exact if_neg ne) ht
            exact ⟨f1, ⟨_, rfl⟩, f2, f3⟩
          · have eq : u = w' := by
              refine Decidable.byContradiction fun z => e ?_
              simp [z]
            exact ⟨g, ⟨_, rfl⟩, eS, xs, el, no (by unfold chgOf; rw [hA, hB]; exact if_pos eq)⟩
    · intro σ G h
      obtain ⟨g, ⟨v, rfl⟩, eS, xs, el, al⟩ := h
      rw [List.length_map, List.take_length] at al
      refine ⟨_, rfl, l, xs, rfl, .inl ⟨SqL.of el, fun t ht => ?_⟩⟩
      have gt : GoE T [l] G (upd G t (.tup xs)) := go_upd g.2 ht
      exact k1 _ t xs (GoE.news h6 (g.trans gt) fun b hb => by rw [List.mem_singleton.mp hb]; exact fresh_none hl) upd_same (al.imp fun x y h => h.ext gt.t)
end
end R
end Text_R5
section Text_R6
set_option Elab.async false
set_option linter.all false
set_option maxRecDepth 100000
set_option maxHeartbeats 4000000
namespace R
open PySem PySem.Spec PyProof.Rows L2 Gx GxR
/-- a list or a tuple that stands -/
def Sq (K : PySem.W.Frag) (H : Hp) (a : Addr) (xs : List V) : Prop := SqL K H a xs ∨ SqT K H a xs
theorem GoE.seqT {T : Tb} {S : List Addr} {K : PySem.W.Frag} {H H' : Hp} {a : Addr} {xs : List V} (g : GoE T S H H') (h : SqT K H a xs) (m : a ∉ S := by simp) : SqT K H' a xs := by
  rcases h with h | h
  · rcases h with h | ⟨o, h⟩
    · exact .inl (.inl (g.at h m))
    · exact .inl (.inr ⟨o, g.at h m⟩)
  · exact .inr h
theorem GoE.seqS {T : Tb} {S : List Addr} {K : PySem.W.Frag} {H H' : Hp} {a : Addr} {xs : List V} (g : GoE T S H H') (h : Sq K H a xs) (m : a ∉ S := by simp) : Sq K H' a xs := h.imp (fun q => g.seq q m) fun q => g.seqT q m
/-- J walks over xs while St -/
structure Ov (J : It) (St : Hp → Prop) (xs : List V) : Prop where
  go : ∀ i H, St H → i < xs.length → J.go i H
  yld : ∀ i H x H', St H → i < xs.length → J.yld i H x H' → H' = H ∧ xs[i]? = some x
  stop : ∀ H, St H → J.stop xs.length H
theorem ov_l {K : PySem.W.Frag} {a : Addr} {xs : List V} : Ov (Itl K a) (fun H => SqL K H a xs) xs :=
  ⟨fun i H h hi => ⟨xs, xs[i], h, List.getElem?_eq_getElem hi⟩, fun i H x H' h _ y => by
    obtain ⟨rfl, y⟩ := y
    exact ⟨rfl, y xs h⟩, fun H h => ⟨xs, h, Nat.le_refl _⟩⟩
theorem ov_t {K : PySem.W.Frag} {a : Addr} {xs : List V} : Ov (Itt K a) (fun H => SqT K H a xs) xs :=
  ⟨fun i H h hi => ⟨xs, xs[i], h, List.getElem?_eq_getElem hi⟩, fun i H x H' h _ y => by
    obtain ⟨rfl, y⟩ := y
    exact ⟨rfl, y xs h⟩, fun H h => ⟨xs, h, Nat.le_refl _⟩⟩
/-- over a list or a tuple -/
def SqR (K : PySem.W.Frag) (a : Addr) (xs : List V) (R : It → Hp → Prop) (H1 : Hp) : Prop := (SqL K H1 a xs ∧ R (Itl K a) H1) ∨ (SqT K H1 a xs ∧ R (Itt K a) H1)
def iSq (K : PySem.W.Frag) (tl : TE) : TI := fun σ H R => tl σ H fun x H1 => ∃ a xs, x = .ref a ∧ SqR K a xs R H1
theorem sq_read {K : PySem.W.Frag} {H1 : Hp} {a : Addr} {xs : List V} {R : It → Hp → Prop} (h : Sq K H1 a xs)
    (k : ∀ (J : It) (St : Hp → Prop), St H1 → (∀ (T : Tb) (S : List Addr) (G G' : Hp), GoE T S G G' → (∀ o, H1 a = some o → (∀ ps, o ≠ .tbl ps) → a ∉ S) → St G → St G') → Ov J St xs → R J H1) : SqR K a xs R H1 := by
  rcases h with h | h
  · refine .inl ⟨h, k _ _ h (fun T S G G' g m q => ?_) ov_l⟩
    rcases h with h | h
    · rcases h with h | ⟨o, h⟩
      · exact g.seq q (m _ h (by intro _ z; cases z))
      · exact g.seq q (m _ h (by intro _ z; cases z))
    · exact .inr h
  · refine .inr ⟨h, k _ _ h (fun T S G G' g m q => ?_) ov_t⟩
    rcases h with h | h
    · rcases h with h | ⟨o, h⟩
      · exact g.seqT q (m _ h (by intro _ z; cases z))
      · exact g.seqT q (m _ h (by intro _ z; cases z))
    · exact .inr h
section
variable {X : Cx} {tg : Expr}
theorem pi_sq {l : Expr} {tl : TE} (hl : PE X l tl) : PI X tg l (iSq X.K tl) := by
  refine ⟨fun pins s σ H R I h => ?_⟩
  refine thn (hl.run pins s σ H _ I h) fun v s1 ⟨x, H1, I1, r1, q1⟩ => ?_
  obtain ⟨a, xs, e, q⟩ := q1
  subst e
  cases r1
  rcases q with ⟨hq, q⟩ | ⟨hq, q⟩
  · obtain ⟨its, rv, p, hz⟩ := I1.list hq
    refine wpAny_pyIter_list p.isList ?_
    refine ⟨s1.heap.objs.size, [s1.heap.objs.size], _, _, H1, rfl, I1.kept (t' := s1.toks) fun b o e => Heap.get?_push_of_some _ e, turn_list a _, ⟨_, Heap.get?_push_size _ rfl, rfl, rfl⟩, fun b hb => ?_, q⟩
    have e : b = s1.heap.objs.size := by simpa using hb
    subst e
    exact I1.fpOk (Nat.le_refl _) (I1.hok.fresh (Nat.le_refl _))
  · obtain ⟨its, rv, p, hz⟩ := I1.tuple hq
    refine wpAny_pyIter_tuple (show s1.heap.IsTuple a its.toArray from p) ?_
    refine ⟨s1.heap.objs.size, [s1.heap.objs.size], _, _, H1, rfl, I1.kept (t' := s1.toks) fun b o e => Heap.get?_push_of_some _ e, turn_tuple a _, ⟨_, Heap.get?_push_size _ rfl, rfl, rfl⟩, fun b hb => ?_, q⟩
    have e : b = s1.heap.objs.size := by simpa using hb
    subst e
    exact I1.fpOk (Nat.le_refl _) (I1.hok.fresh (Nat.le_refl _))
/-- o.f = .. as one of several targets -/
def gFld (K : PySem.W.Frag) (ta : TE) (f : Str) : TG := fun y σ H Q => ta σ H fun x H2 => ∃ a C dx fs, x = .ref a ∧ H2 a = some (.ins C dx fs) ∧ Cls K C ∧ NoAttr K C f ∧ fs.length < 1000 ∧ Q σ (upd H2 a (.ins C dx (putF f y fs)))
theorem pg_fld {o : Expr} {f : Str} {pos : Pos} {ta : TE} (ho : PE X o ta) : PG X (.Attribute o f pos) (gFld X.K ta f) := by
  refine ⟨fun pins s σ H v u Q I r h => ?_⟩
  rw [assign_Attribute]
  refine wpAny_bind (wpAny_holding (thn (ho.run pins s σ H _ I h) fun ov s1 ⟨x, H2, I2, rx, a, C, dx, fs, ex, ea, c, n, l, q2⟩ => ?_))
  subst ex
  obtain rfl : ov = Value.ref a := rx
  refine wpAny_bind (wpAny_standAt (wpAny_bind (wpAny_holding ?_)))
  exact setattr_ok I2 ea c n l r fun s3 I3 => wpAny_release ⟨σ, _, I3, q2⟩
end
end R
end Text_R6
section Text_R7
set_option Elab.async false
set_option linter.all false
set_option maxRecDepth 100000
set_option maxHeartbeats 4000000
namespace R
open PySem PySem.Spec PyProof.Rows L2 Gx GxR
theorem put_ne {f g : Str} {v x : V} {r : List (Str × V)} (h : ¬ g = f) : putF f v ((g, x) :: r) = (g, x) :: putF f v r := if_neg h
theorem put_eq {f : Str} {v x : V} {r : List (Str × V)} : putF f v ((f, x) :: r) = (f, v) :: r := if_pos rfl
theorem look_ne {f g : Str} {x : V} {r : List (Str × V)} (h : ¬ f = g) : ((g, x) :: r).lookup f = r.lookup f := by
  rw [List.lookup_cons, (by simpa using h : (f == g) = false)]
theorem look_eq {f : Str} {x : V} {r : List (Str × V)} : ((f, x) :: r).lookup f = some x := by
  rw [List.lookup_cons, beq_self_eq_true]
def flds (o g m h b : V) : List (Str × V) := [("owners", o), ("guarded", g), ("most_signs", m), ("heads", h), ("barred", b)]
section
variable {o g m h b x : V}
theorem n12 : ¬ ("owners" : Str) = "guarded" := by decide +kernel
theorem n13 : ¬ ("owners" : Str) = "most_signs" := by decide +kernel
theorem n14 : ¬ ("owners" : Str) = "heads" := by decide +kernel
theorem n15 : ¬ ("owners" : Str) = "barred" := by decide +kernel
theorem n23 : ¬ ("guarded" : Str) = "most_signs" := by decide +kernel
theorem n24 : ¬ ("guarded" : Str) = "heads" := by decide +kernel
theorem n25 : ¬ ("guarded" : Str) = "barred" := by decide +kernel
theorem n34 : ¬ ("most_signs" : Str) = "heads" := by decide +kernel
theorem n35 : ¬ ("most_signs" : Str) = "barred" := by decide +kernel
theorem n45 : ¬ ("heads" : Str) = "barred" := by decide +kernel
theorem flds_mk : putF "barred" b (putF "heads" h (putF "most_signs" m (putF "guarded" g (putF "owners" o [])))) = flds o g m h b := by
  show putF "barred" b (putF "heads" h (putF "most_signs" m (putF "guarded" g [("owners", o)]))) = _
  rw [put_ne n12]
  show putF "barred" b (putF "heads" h (putF "most_signs" m [("owners", o), ("guarded", g)])) = _
  rw [put_ne n13, put_ne n23]
  show putF "barred" b (putF "heads" h [("owners", o), ("guarded", g), ("most_signs", m)]) = _
  rw [put_ne n14, put_ne n24, put_ne n34]
  show putF "barred" b [("owners", o), ("guarded", g), ("most_signs", m), ("heads", h)] = _
  rw [put_ne n15, put_ne n25, put_ne n35, put_ne n45]
  all_goals rfl
theorem put_o : putF "owners" x (flds o g m h b) = flds x g m h b := put_eq
theorem put_m : putF "most_signs" x (flds o g m h b) = flds o g x h b := by
  unfold flds
  rw [put_ne n13, put_ne n23, put_eq]
theorem put_h : putF "heads" x (flds o g m h b) = flds o g m x b := by
  unfold flds
  rw [put_ne n14, put_ne n24, put_ne n34, put_eq]
theorem put_b : putF "barred" x (flds o g m h b) = flds o g m h x := by
  unfold flds
  rw [put_ne n15, put_ne n25, put_ne n35, put_ne n45, put_eq]
theorem look_o : (flds o g m h b).lookup ("owners" : Str) = some o := look_eq
theorem look_g : (flds o g m h b).lookup ("guarded" : Str) = some g := (look_ne (Ne.symm n12)).trans look_eq
theorem look_m : (flds o g m h b).lookup ("most_signs" : Str) = some m := (look_ne (Ne.symm n13)).trans ((look_ne (Ne.symm n23)).trans look_eq)
theorem look_h : (flds o g m h b).lookup ("heads" : Str) = some h := (look_ne (Ne.symm n14)).trans ((look_ne (Ne.symm n24)).trans ((look_ne (Ne.symm n34)).trans look_eq))
theorem look_b : (flds o g m h b).lookup ("barred" : Str) = some b := (look_ne (Ne.symm n15)).trans ((look_ne (Ne.symm n25)).trans ((look_ne (Ne.symm n35)).trans ((look_ne (Ne.symm n45)).trans look_eq)))
end
/-- the class as the top has made it -/
structure Cl (K : PySem.W.Frag) (mg : Str → Option Value) (C : Addr) : Prop where
  cl : Cls K C
  nO : NoAttr K C "owners"
  nG : NoAttr K C "guarded"
  nM : NoAttr K C "most_signs"
  nH : NoAttr K C "heads"
  nB : NoAttr K C "barred"
  mgC : mg "Rules" = some (.ref C)
/-! what rules hold -/
abbrev Owns := List (Str × List Str)
def NamesAt (H : Hp) (v : V) (ns : List Str) : Prop := ∃ t, v = .ref t ∧ H t = some (.tup (ns.map V.str))
def OwRow (H : Hp) (v : V) (r : Str × List Str) : Prop := ∃ t u, v = .ref t ∧ H t = some (.tup [.str r.1, .ref u]) ∧ H u = some (.tup (r.2.map V.str))
def OwAt (H : Hp) (v : V) (ow : Owns) : Prop := ∃ t xs, v = .ref t ∧ H t = some (.tup xs) ∧ All2 (OwRow H) xs ow
theorem NamesAt.ext {H H' : Hp} {v : V} {ns : List Str} (a : NamesAt H v ns) (e : ExtT H H') : NamesAt H' v ns := let ⟨t, x, y⟩ := a; ⟨t, x, e _ _ y⟩
theorem OwRow.ext {H H' : Hp} {v : V} {r : Str × List Str} (a : OwRow H v r) (e : ExtT H H') : OwRow H' v r := let ⟨t, u, x, y, z⟩ := a; ⟨t, u, x, e _ _ y, e _ _ z⟩
theorem OwAt.ext {H H' : Hp} {v : V} {ow : Owns} (a : OwAt H v ow) (e : ExtT H H') : OwAt H' v ow := let ⟨t, xs, x, y, z⟩ := a; ⟨t, xs, x, e _ _ y, z.imp fun _ _ h => h.ext e⟩
def gk (gs : List (Str × Int)) : List (Key × V) := gs.map fun p => (Sum.inr p.1, .int p.2)
/-- rules at r, their dict of guarded branches at d -/
structure RAt (C : Addr) (H : Hp) (r d : Addr) (ow : Owns) (gs : List (Str × Int)) (ms : Int) (hs bs : List Str) : Prop where
  ob : ∃ dx o h b, H r = some (.ins C dx (flds o (.ref d) (.int ms) h b)) ∧ OwAt H o ow ∧ NamesAt H h hs ∧ NamesAt H b bs
  gd : H d = some (.dK (gk gs))
theorem RAt.ext {C : Addr} {T : Tb} {S : List Addr} {H H' : Hp} {r d : Addr} {ow : Owns} {gs : List (Str × Int)} {ms : Int} {hs bs : List Str} (a : RAt C H r d ow gs ms hs bs) (g : GoE T S H H') (h1 : r ∉ S) (h2 : d ∉ S) : RAt C H' r d ow gs ms hs bs := by
  obtain ⟨⟨dx, o, h, b, e1, e2, e3, e4⟩, e5⟩ := a
  exact ⟨⟨dx, o, h, b, g.at e1 h1, e2.ext g.t, e3.ext g.t, e4.ext g.t⟩, g.at e5 h2⟩
theorem RAt.ne {C : Addr} {H : Hp} {r d : Addr} {ow : Owns} {gs : List (Str × Int)} {ms : Int} {hs bs : List Str} (a : RAt C H r d ow gs ms hs bs) : r ≠ d := by
  obtain ⟨⟨dx, o, h, b, e1, _⟩, e5⟩ := a
  exact ne_of e1 e5 (by intro z; cases z)
theorem fresh_ofE {T : Tb} {S : List Addr} {H G : Hp} {D : Addr} (g : GoE T S H G) (hD : G D = none) (m : D ∉ S) : Fresh H D := fun u e => by
  refine Classical.byContradiction fun n => ?_
  have := g.1 D u e (fun ps z => n ⟨ps, z⟩) (.inl m)
  rw [hD] at this
  cases this
/-! __init__ -/
def spInit (C : Addr) (T : Tb) : Sp := fun vs H Q _ => ∃ r dx, vs = [.ref r] ∧ H r = some (.ins C dx []) ∧ TOk T H ∧ ∀ H' d, GoE T [r] H H' → Fresh H d → RAt C H' r d [] [] 100000 [] [] → Q .non H'
section
variable {P : Program} {w : World} {K : PySem.W.Frag} {mg : Str → Option Value} {base : Heap} {T : Tb} {C : Addr}
theorem scI : FnScope ["self"] ["self"] (defScope sInit) := ⟨rfl, rfl, rfl, by decide +kernel, rfl, by decide +kernel, by decide +kernel⟩
theorem ok_init {f : Addr} {fd : FuncData} (F : Fun K "__init__" "Rules.__init__" sInit f fd) (L : Cl K mg C) : FnOk P w K mg base CX0 1 f fd ["self"] (spInit C T) := by
  refine F.ok scI (fun vs H Q E h => ?_) (fun cdv A outer s H vs Q E hr h => ?_)
  · obtain ⟨r, dx, rfl, _⟩ := h
    rfl
  · obtain ⟨r, dx, rfl, hr0, tk, k1⟩ := h
    refine ⟨_, pss_cons (ps_fld (pv 0) (pe_tup pa_nil) rfl) (pss_cons (ps_fld (pv 0) pe_dnewK rfl) (pss_cons (ps_fld (pv 0) pe_int rfl) (pss_cons (ps_fld (pv 0) (pe_tup pa_nil) rfl) (pss_one (ps_fld (pv 0) (pe_tup pa_nil) rfl))))), ?_⟩
    -- one store
    have st : ∀ {G : Hp} {fs : List (Str × V)} {fl : Str} {v : V}, GoE T [r] H G → G r = some (.ins C dx fs) → GoE T [r] H (upd G r (.ins C dx (putF fl v fs))) ∧ upd G r (.ins C dx (putF fl v fs)) r = some (.ins C dx (putF fl v fs)) := fun g e => ⟨g.trans (go_set g.2 e mu_ins (by simp)), upd_same⟩
    have nw : ∀ {G : Hp} {fs : List (Str × V)} {t : Addr} {o : HO}, GoE T [r] H G → G r = some (.ins C dx fs) → G t = none → GoE T [r] H (upd G t o) ∧ upd G t o r = some (.ins C dx fs) := fun g e ht => ⟨g.trans (go_upd g.2 ht), by rw [upd_ne (ne_of_none e ht)]; exact e⟩
    refine ⟨by show 0 ≤ sizeLine; decide, fun t1 h1 => ?_⟩
    obtain ⟨g1, e1⟩ := nw (o := .tup []) (GoE.refl tk) hr0 h1
    have et1 : upd H t1 (.tup []) t1 = some (.tup []) := upd_same
    generalize upd H t1 (.tup []) = G1 at g1 e1 et1 ⊢
    refine ⟨_, rfl, r, C, dx, _, rfl, e1, L.cl, L.nO, by decide, ?_⟩
    obtain ⟨g2, e2⟩ := st (fl := "owners") (v := .ref t1) g1 e1
    have x2 : ExtT G1 (upd G1 r (.ins C dx (putF "owners" (.ref t1) []))) := (go_set (S := [r]) g1.2 e1 mu_ins (by simp)).t
    have et1 := x2 _ _ et1
    generalize upd G1 r (.ins C dx (putF "owners" (.ref t1) [])) = G2 at g2 e2 et1 ⊢
    intro d hd
    have hdH : Fresh H d := fresh_ofE g2 hd (by simpa using (ne_of_none e2 hd).symm)
    obtain ⟨g3, e3⟩ := nw (o := .dK []) g2 e2 hd
    have ed : upd G2 d (.dK []) d = some (.dK []) := upd_same
    have et1 := (go_upd (S := [r]) (o := .dK []) g2.2 hd).t _ _ et1
    generalize upd G2 d (.dK []) = G3 at g3 e3 ed et1 ⊢
    have rd : d ≠ r := fun z => by rw [z, e3] at ed; cases ed
    have rd' : d ∉ [r] := by simpa using rd
    -- a store and what stays
    have st2 : ∀ {G : Hp} {fs : List (Str × V)} {fl : Str} {v : V}, GoE T [r] H G → G r = some (.ins C dx fs) → GoE T [r] G (upd G r (.ins C dx (putF fl v fs))) := fun g e => go_set g.2 e mu_ins (by simp)
    refine ⟨_, rfl, r, C, dx, _, rfl, e3, L.cl, L.nG, by show 1 < 1000; decide, ?_⟩
    have w4 := st2 (fl := "guarded") (v := .ref d) g3 e3
    have e4 : upd G3 r (.ins C dx (putF "guarded" (.ref d) (putF "owners" (.ref t1) []))) r = some (.ins C dx (putF "guarded" (.ref d) (putF "owners" (.ref t1) []))) := upd_same
    have ed := w4.at ed rd'
    have et1 := w4.t _ _ et1
    have g4 := g3.trans w4
    generalize upd G3 r (.ins C dx (putF "guarded" (.ref d) (putF "owners" (.ref t1) []))) = G4 at g4 e4 ed et1 ⊢
    refine ⟨_, rfl, r, C, dx, _, rfl, e4, L.cl, L.nM, by show 2 < 1000; decide, ?_⟩
    have w5 := st2 (fl := "most_signs") (v := .int 100000) g4 e4
    have e5 : upd G4 r (.ins C dx (putF "most_signs" (.int 100000) (putF "guarded" (.ref d) (putF "owners" (.ref t1) [])))) r = some (.ins C dx (putF "most_signs" (.int 100000) (putF "guarded" (.ref d) (putF "owners" (.ref t1) [])))) := upd_same
    have ed := w5.at ed rd'
    have et1 := w5.t _ _ et1
    have g5 := g4.trans w5
    generalize upd G4 r (.ins C dx (putF "most_signs" (.int 100000) (putF "guarded" (.ref d) (putF "owners" (.ref t1) [])))) = G5 at g5 e5 ed et1 ⊢
    refine ⟨by show 0 ≤ sizeLine; decide, fun t2 h2 => ?_⟩
    have w6 : GoE T [r] G5 (upd G5 t2 (.tup [])) := go_upd g5.2 h2
    have et2 : upd G5 t2 (.tup []) t2 = some (.tup []) := upd_same
    have e6 : upd G5 t2 (.tup []) r = _ := (nw (o := .tup []) g5 e5 h2).2
    have ed := w6.at ed rd'
    have et1 := w6.t _ _ et1
    have g6 := g5.trans w6
    generalize upd G5 t2 (.tup []) = G6 at g6 e6 ed et1 et2 ⊢
    refine ⟨_, rfl, r, C, dx, _, rfl, e6, L.cl, L.nH, by show 3 < 1000; decide, ?_⟩
    have w7 := st2 (fl := "heads") (v := .ref t2) g6 e6
    have e7 : upd G6 r (.ins C dx (putF "heads" (.ref t2) (putF "most_signs" (.int 100000) (putF "guarded" (.ref d) (putF "owners" (.ref t1) []))))) r = some (.ins C dx (putF "heads" (.ref t2) (putF "most_signs" (.int 100000) (putF "guarded" (.ref d) (putF "owners" (.ref t1) []))))) := upd_same
    have ed := w7.at ed rd'
    have et1 := w7.t _ _ et1
    have et2 := w7.t _ _ et2
    have g7 := g6.trans w7
    generalize upd G6 r (.ins C dx (putF "heads" (.ref t2) (putF "most_signs" (.int 100000) (putF "guarded" (.ref d) (putF "owners" (.ref t1) []))))) = G7 at g7 e7 ed et1 et2 ⊢
    refine ⟨by show 0 ≤ sizeLine; decide, fun t3 h3 => ?_⟩
    have w8 : GoE T [r] G7 (upd G7 t3 (.tup [])) := go_upd g7.2 h3
    have et3 : upd G7 t3 (.tup []) t3 = some (.tup []) := upd_same
    have e8 : upd G7 t3 (.tup []) r = _ := (nw (o := .tup []) g7 e7 h3).2
    have ed := w8.at ed rd'
    have et1 := w8.t _ _ et1
    have et2 := w8.t _ _ et2
    have g8 := g7.trans w8
    generalize upd G7 t3 (.tup []) = G8 at g8 e8 ed et1 et2 et3 ⊢
    refine ⟨_, rfl, r, C, dx, _, rfl, e8, L.cl, L.nB, by show 4 < 1000; decide, ?_⟩
    have w9 := st2 (fl := "barred") (v := .ref t3) g8 e8
    refine k1 _ d (g8.trans w9) hdH ⟨⟨dx, .ref t1, .ref t2, .ref t3, ?_, ⟨t1, [], rfl, w9.t _ _ et1, All2.nil⟩, ⟨t2, rfl, w9.t _ _ et2⟩, ⟨t3, rfl, w9.t _ _ et3⟩⟩, w9.at ed rd'⟩
    rw [upd_same, flds_mk]
end
end R
end Text_R7
section Text_R8
set_option Elab.async false
set_option linter.all false
set_option maxRecDepth 100000
set_option maxHeartbeats 4000000
namespace R
open PySem PySem.Spec PyProof.Rows L2 Gx GxR
abbrev Gs := List (Str × Int)
def gl (gs : Gs) (n : Str) : Option Int := (gs.find? fun q => decide (q.1 = n)).map (·.2)
theorem valV_gk (gs : Gs) (n : Str) : valV (gk gs) (Sum.inr n) = (gl gs n).map V.int := by
  unfold valV gk gl
  rw [List.find?_map]
  have e : ((fun q : Key × V => decide (q.1 = Sum.inr n)) ∘ fun q : Str × Int => ((Sum.inr q.1 : Key), V.int q.2)) = fun q : Str × Int => decide (q.1 = n) := by
    funext q
    show decide ((Sum.inr q.1 : Key) = Sum.inr n) = _
    rw [Bool.eq_iff_iff, decide_eq_true_iff, decide_eq_true_iff]
    exact ⟨fun h => Sum.inr.inj h, fun h => by rw [h]⟩
  rw [e]
  cases gs.find? fun q => decide (q.1 = n) <;> rfl
def gDrop (gs : Gs) (n : Str) : Gs := gs.filter fun q => !decide (q.1 = n)
def gPut (gs : Gs) (n : Str) (m : Int) : Gs := if (gs.any fun q => decide (q.1 = n)) = true then gs.map (fun q => if q.1 = n then (q.1, m) else q) else gs ++ [(n, m)]
def gSet (gs : Gs) (n : Str) (m : Int) : Gs := if m = 0 then gDrop gs n else gPut gs n m
theorem gk_drop (gs : Gs) (n : Str) : dropK (gk gs) (Sum.inr n) = gk (gDrop gs n) := by
  unfold dropK gk gDrop
  rw [List.filter_map]
  refine congrArg (List.map _) (List.filter_congr fun q _ => ?_)
  show (decide ((Sum.inr q.1 : Key) ≠ Sum.inr n)) = !decide (q.1 = n)
  by_cases h : q.1 = n
  · rw [h]; simp
  · rw [decide_eq_false h, decide_eq_true (show (Sum.inr q.1 : Key) ≠ Sum.inr n from fun z => h (Sum.inr.inj z))]
    rfl
theorem gk_put (gs : Gs) (n : Str) (m : Int) : putK (gk gs) (Sum.inr n) (V.int m) = gk (gPut gs n m) := by
  have e : ∀ q : Str × Int, decide ((Sum.inr q.1 : Key) = Sum.inr n) = decide (q.1 = n) := fun q => by
    rw [Bool.eq_iff_iff, decide_eq_true_iff, decide_eq_true_iff]
    exact ⟨fun h => Sum.inr.inj h, fun h => by rw [h]⟩
  unfold putK gPut gk
  have ea : ((gs.map fun p : Str × Int => ((Sum.inr p.1 : Key), V.int p.2)).any fun kv => decide (kv.1 = Sum.inr n)) = gs.any fun q => decide (q.1 = n) := by
    rw [List.any_map]
    exact congrArg _ (funext fun q => e q)
  rw [ea]
  by_cases h : (gs.any fun q => decide (q.1 = n)) = true
  · rw [if_pos h, if_pos h, List.map_map, List.map_map]
    refine List.map_congr_left fun q _ => ?_
    show (if (Sum.inr q.1 : Key) = Sum.inr n then ((Sum.inr q.1 : Key), V.int m) else (Sum.inr q.1, V.int q.2)) = (fun p : Str × Int => ((Sum.inr p.1 : Key), V.int p.2)) (if q.1 = n then (q.1, m) else q)
    by_cases hq : q.1 = n
    · rw [if_pos hq, if_pos (by rw [hq])]
    · rw [if_neg hq, if_neg fun z => hq (Sum.inr.inj z)]
  · rw [if_neg h, if_neg h, List.map_append]
    rfl
theorem gl_drop (gs : Gs) (n k : Str) : gl (gDrop gs n) k = if k = n then none else gl gs k := by
  unfold gl gDrop
  induction gs with
  | nil => simp
  | cons q r ih =>
    rw [List.filter_cons]
    by_cases hq : q.1 = n
    · rw [decide_eq_true hq]
      simp only [Bool.not_true, Bool.false_eq_true, if_false]
      rw [ih]
      by_cases hk : k = n
      · rw [if_pos hk, if_pos hk]
      · rw [if_neg hk, if_neg hk, List.find?_cons, decide_eq_false (show ¬ q.1 = k from fun z => hk (z ▸ hq))]
    · rw [decide_eq_false hq]
      simp only [Bool.not_false, if_true]
      rw [List.find?_cons, List.find?_cons]
      by_cases hk : q.1 = k
      · rw [decide_eq_true hk, if_neg (show ¬ k = n from fun z => hq (hk.trans z))]
      · rw [decide_eq_false hk]
        exact ih
theorem gl_put (gs : Gs) (n k : Str) (m : Int) : gl (gPut gs n m) k = if k = n then some m else gl gs k := by
  unfold gPut
  by_cases h : (gs.any fun q => decide (q.1 = n)) = true
  · rw [if_pos h]
    unfold gl
    rw [List.find?_map]
    have e : ((fun q : Str × Int => decide (q.1 = k)) ∘ fun q : Str × Int => if q.1 = n then (q.1, m) else q) = fun q : Str × Int => decide (q.1 = k) := by
      funext q
      show decide ((if q.1 = n then (q.1, m) else q).1 = k) = _
      split <;> rfl
    rw [e]
    cases hf : gs.find? fun q => decide (q.1 = k) with
    | none =>
      have : ¬ k = n := fun z => by
        rw [List.any_eq_true] at h
        obtain ⟨q, hq, e⟩ := h
        rw [List.find?_eq_none] at hf
        have := hf q hq
        rw [z] at this
        exact this e
      rw [if_neg this]
      rfl
    | some q =>
      have hq := List.find?_some hf
      have hq : q.1 = k := of_decide_eq_true hq
      by_cases z : k = n
      · rw [if_pos z]
        show some (if q.1 = n then (q.1, m) else q).2 = _
        rw [if_pos (hq.trans z)]
      · rw [if_neg z]
        show some (if q.1 = n then (q.1, m) else q).2 = _
        rw [if_neg fun y => z (hq.symm.trans y)]
        rfl
  · rw [if_neg h]
    unfold gl
    rw [List.find?_append]
    have hn : gs.find? (fun q => decide (q.1 = n)) = none := by
      rw [List.find?_eq_none]
      intro q hq e
      exact h (List.any_eq_true.mpr ⟨q, hq, e⟩)
    by_cases z : k = n
    · rw [if_pos z, z, hn]
      simp
    · rw [if_neg z]
      have : (([(n, m)] : Gs).find? fun q => decide (q.1 = k)) = none := by
        rw [List.find?_cons, decide_eq_false (show ¬ n = k from fun y => z y.symm)]
        rfl
      rw [this, Option.or_none]
theorem gl_set (gs : Gs) (n k : Str) (m : Int) : gl (gSet gs n m) k = if k = n then (if m = 0 then none else some m) else gl gs k := by
  unfold gSet
  by_cases h : m = 0
  · rw [if_pos h, gl_drop, if_pos h]
  · rw [if_neg h, gl_put, if_neg h]
theorem gDrop_len (gs : Gs) (n : Str) : (gDrop gs n).length ≤ gs.length := List.length_filter_le _ _
theorem gPut_len (gs : Gs) (n : Str) (m : Int) : (gPut gs n m).length ≤ gs.length + 1 := by
  unfold gPut
  split
  · rw [List.length_map]; exact Nat.le_succ _
  · rw [List.length_append]; exact Nat.le_refl _
theorem gSet_len (gs : Gs) (n : Str) (m : Int) : (gSet gs n m).length ≤ gs.length + 1 := by
  unfold gSet
  split
  · exact Nat.le_succ_of_le (gDrop_len gs n)
  · exact gPut_len gs n m
theorem gk_len (gs : Gs) : (gk gs).length = gs.length := by unfold gk; rw [List.length_map]
end R
end Text_R8
section Text_R9
set_option Elab.async false
set_option linter.all false
set_option maxRecDepth 100000
set_option maxHeartbeats 4000000
namespace R
open PySem PySem.Spec PyProof.Rows L2 Gx GxR
def gOkG (gs : Gs) (n : Str) (m : Int) : Bool := decide (n ≠ "") && decide (0 ≤ m) && (decide (0 < m) || (gl gs n).isSome)
/-- guard -/
def spGuard (C : Addr) (T : Tb) (CR : Addr) : Sp := fun vs H Q E => ∃ r d n m ow gs ms hs bs, vs = [.ref r, .str n, .int m] ∧ RAt C H r d ow gs ms hs bs ∧ TOk T H ∧ gs.length ≤ 1000 ∧
  (gOkG gs n m = true → ∀ H', GoE T [d] H H' → RAt C H' r d ow (gSet gs n m) ms hs bs → Q .non H') ∧ (gOkG gs n m = false → E (.ref CR) none H)
section
variable {P : Program} {w : World} {K : PySem.W.Frag} {mg : Str → Option Value} {base : Heap} {T : Tb} {C CR CS : Addr}
theorem scG : FnScope ["self", "name", "many"] ["self", "name", "many"] (defScope sGuard) := ⟨rfl, rfl, rfl, by decide +kernel, rfl, by decide +kernel, by decide +kernel⟩
theorem ok_guard {f : Addr} {fd : FuncData} (F : Fun K "guard" "Rules.guard" sGuard f fd) (L : Cl K mg C) (X : Er K mg CR CS) : FnOk P w K mg base (L2.CX P w) 1 f fd ["self", "name", "many"] (spGuard C T CR) := by
  refine F.okX scG (fun vs H Q E h => ?_) (fun cdv A outer s H vs Q E hr h => ?_)
  · obtain ⟨r, d, n, m, ow, gs, ms, hs, bs, rfl, _⟩ := h
    rfl
  · obtain ⟨r, d, n, m, ow, gs, ms, hs, bs, rfl, ra, tk, hlen, k1, k2⟩ := h
    have hu := hu_of hr
    refine ⟨_, pss_cons (ps_if (PW.pt (pw_or (pt_cmpR op_eq (pv 1) pe_str (nomark _)) (pw_or (pt_cmpR op_lt (pv 2) pe_int (nomark _)) (pw_or1 (PW.pt (pw_and (pt_cmpR op_eq (pv 2) pe_int (nomark _)) (pw_and1 (pt_cmp (pc_dnotin hu (pv 1) (pe_fld (pv 0) rfl))))))))))
        (pss_one (ps_raise rfl (takes_of rfl rfl rfl rfl) (pmk_own PySem.F.excBase_ValueError X.xR X.gR X.kR (raises_own X.bR X.tR) rfl))) pss_nil)
      (pss_one (ps_if (pt_cmpR op_eq (pv 2) pe_int (nomark _)) (pss_one (ps_ddel (pe_fld (pv 0) rfl) (pv 1))) (pss_one (ps_dput hu (pe_fld (pv 0) rfl) (pv 1) (pv 2) rfl)))), ?_⟩
    obtain ⟨⟨dx, o, hh, bb, er, ho, hhs, hbs⟩, ed⟩ := id ra
    have rd := ra.ne
    have eG : valV (gk gs) (Sum.inr n) = (gl gs n).map V.int := valV_gk gs n
    -- written anew
    have fin : ∀ gs' : Gs, gs' = gSet gs n m → gOkG gs n m = true → Q .non (upd H d (.dK (gk gs'))) := fun gs' e hg => by
      have g : GoE T [d] H (upd H d (.dK (gk gs'))) := go_set tk ed mu_dK (by simp)
      refine k1 hg _ g ⟨⟨dx, o, hh, bb, g.at er (by simpa using rd), ho.ext g.t, hhs.ext g.t, hbs.ext g.t⟩, ?_⟩
      rw [upd_same, e]
    refine ⟨_, rfl, rfl, _, rfl, orR (fun e1 => iteT ?_) (fun e1 => ⟨_, rfl, _, _, rfl, rfl, _, rfl, orR (fun e2 => iteT ?_) (fun e2 => ⟨_, rfl, rfl, _, rfl, orR (fun e3 => ⟨_, rfl, _, rfl, r, C, dx, _, _, rfl, er, L.cl, L.nG, look_g, d, _, rfl, DGet.k (k := Sum.inr n) ed, _, rfl, ?_⟩) (fun e3 => iteF ?_)⟩)⟩)⟩
    · refine k2 ?_
      have e : n = "" := V.str.inj (of_decide_eq_true e1)
      unfold gOkG
      rw [e]
      simp
    · refine k2 ?_
      have e : ¬ 0 ≤ m := by simpa using e2
      unfold gOkG
      rw [decide_eq_false e]
      simp
    · -- many == 0
      have em : m = 0 := V.int.inj (of_decide_eq_true e3)
      have hn : n ≠ "" := fun z => (of_decide_eq_false e1) (congrArg V.str z)
      cases hg : gl gs n with
      | none =>
        rw [eG, hg]
        refine iteT (k2 ?_)
        unfold gOkG
        rw [hg, em]
        simp
      | some v =>
        rw [eG, hg]
        refine iteF ⟨_, rfl, rfl, _, rfl, ?_⟩
        have hok : gOkG gs n m = true := by
          unfold gOkG
          rw [hg, em, decide_eq_true hn]
          rfl
        rw [e3]
        refine iteT ⟨_, rfl, r, C, dx, _, _, rfl, er, L.cl, L.nG, look_g, _, rfl, d, gk gs, Sum.inr n, rfl, ed, rfl, by rw [eG, hg]; rfl, ?_⟩
        rw [gk_drop]
        exact fin _ (by unfold gSet; rw [if_pos em]) hok
    · have em : ¬ m = 0 := fun z => (of_decide_eq_false e3) (congrArg V.int z)
      have hn : n ≠ "" := fun z => (of_decide_eq_false e1) (congrArg V.str z)
      have hm : 0 ≤ m := by
        have : ¬ m < 0 := by simpa using e2
        omega
      have hok : gOkG gs n m = true := by
        unfold gOkG
        rw [decide_eq_true hn, decide_eq_true hm, decide_eq_true (show 0 < m by omega)]
        rfl
      refine ⟨_, rfl, rfl, _, rfl, ?_⟩
      rw [e3]
      refine iteF ⟨_, rfl, _, rfl, r, C, dx, _, _, rfl, er, L.cl, L.nG, look_g, _, rfl, d, _, rfl, DPut.k (k := Sum.inr n) ed (by rw [gk_len, sizeLine_eq]; omega), ?_⟩
      rw [gk_put]
      exact fin _ (by unfold gSet; rw [if_neg em]) hok
end
end R
end Text_R9
section Text_R10
set_option Elab.async false
set_option linter.all false
set_option maxRecDepth 100000
set_option maxHeartbeats 4000000
namespace R
open PySem PySem.Spec PyProof.Rows L2 Gx GxR
def SqH (K : PySem.W.Frag) (H : Hp) (a : Addr) (xs : List V) : Prop := SqL K H a xs ∨ H a = some (.tup xs)
theorem SqH.sq {K : PySem.W.Frag} {H : Hp} {a : Addr} {xs : List V} (h : SqH K H a xs) : SqL K H a xs ∨ SqT K H a xs := h.imp id SqT.of
theorem SqH.ext {T : Tb} {S : List Addr} {K : PySem.W.Frag} {H H' : Hp} {a : Addr} {xs : List V} (h : SqH K H a xs) (g : GoE T S H H') (m : a ∉ S) : SqH K H' a xs := h.imp (fun q => g.seq q m) fun q => g.t _ _ q
/-- the tuple at l has these items; it is new, or it stood -/
def NewT (H : Hp) (l : Addr) (ys : List V) (H2 : Hp) : Prop := H2 l = some (.tup ys) ∧ (H2 = H ∨ (H l = none ∧ H2 = upd H l (.tup ys)))
theorem NewT.go {T : Tb} {S : List Addr} {H H2 : Hp} {l : Addr} {ys : List V} (n : NewT H l ys H2) (tk : TOk T H) : GoE T S H H2 := by
  rcases n.2 with e | ⟨e1, e2⟩
  · rw [e]; exact GoE.refl tk
  · rw [e2]; exact go_upd tk e1
def tTupV (K : PySem.W.Frag) (i : Nat) : TE := fun σ H Q => ∃ p ys, σ[i]? = some (some (.ref p)) ∧ SqH K H p ys ∧ ∀ l H2, NewT H l ys H2 → Q (.ref l) H2
theorem pe_tupV {X : Cx} {i : Nat} {p1 p2 p3 : Pos} {x : Str} (hm : X.mg "tuple" = none) (hg : Gl X "tuple") (hv : PE X (.Name x p2) (tVar i)) : PE X (.Call (.Name "tuple" p1) [.Name x p2] [] p3) (tTupV X.K i) := by
  refine ⟨fun pins s σ H Q I h => ?_⟩
  obtain ⟨p, ys, e, hs, k⟩ := h
  refine (pe_callTy call_tuple_of hg hm (by decide +kernel) (pa_cons hv pa_nil)).run pins s σ H Q I ⟨_, e, p, ys, rfl, ?_⟩
  rcases hs with hs | hs
  · exact .inl ⟨hs, fun l hl => k l _ ⟨upd_same, .inr ⟨hl, rfl⟩⟩⟩
  · exact .inr ⟨SqT.of hs, k p H ⟨hs, .inl rfl⟩⟩
theorem pe_tupVK {X : Cx} (K : PySem.W.Frag) (hK : X.K = K) {i : Nat} {p1 p2 p3 : Pos} {x : Str} (hm : X.mg "tuple" = none) (hg : Gl X "tuple") (hv : PE X (.Name x p2) (tVar i)) : PE X (.Call (.Name "tuple" p1) [.Name x p2] [] p3) (tTupV K i) := by
  rw [← hK]
  exact pe_tupV hm hg hv
theorem pg_tupK {X : Cx} (K : PySem.W.Frag) (n : Nat) (hK : X.K = K) {es : List Expr} {k : Nat} {pos : Pos} {t : TGs} (hc : X.calm = true) (h : PGs X es t) (hn : (assignEach es X.env).length = n := by rfl) (hst : (assignEach es X.env).findIdx? (·.1) = none := by rfl) :
    PG X (.Tuple es k pos) (gTup K n t) := by
  rw [← hK]
  exact pg_tup hc h hn hst
theorem op_in_seqK {X : Cx} (K : PySem.W.Frag) (hK : X.K = K) : OpR X (compareOp .In) (rIn K false) := by
  rw [← hK]
  exact op_in_seq
theorem op_notIn_seqK {X : Cx} (K : PySem.W.Frag) (hK : X.K = K) : OpR X (compareOp .NotIn) (rIn K true) := by
  rw [← hK]
  exact op_notIn_seq
theorem inV_str (x : Str) : ∀ xs : List Str, inV (.str x) (xs.map V.str) = decide (x ∈ xs)
  | [] => rfl
  | y :: r => by
    show ((y == x) || inV (.str x) (r.map V.str)) = _
    rw [inV_str x r, Bool.eq_iff_iff, Bool.or_eq_true, beq_iff_eq, decide_eq_true_iff, decide_eq_true_iff, List.mem_cons]
    exact ⟨fun h => h.imp (fun e => e.symm) id, fun h => h.imp (fun e => e.symm) id⟩
theorem flat_strs : ∀ xs : List Str, (xs.map V.str).all flatV = true
  | [] => rfl
  | _ :: r => flat_strs r
def limOk (m : Int) (hs bs : List Str) : Bool := decide (1 ≤ m) && !decide (("" : Str) ∈ hs) && !decide (("" : Str) ∈ bs)
def spLimit (K : PySem.W.Frag) (C : Addr) (T : Tb) (CR : Addr) : Sp := fun vs H Q E => ∃ r d a b m ow gs ms hs bs hs2 bs2, vs = [.ref r, .int m, .ref a, .ref b] ∧ RAt C H r d ow gs ms hs bs ∧ TOk T H ∧ SqH K H a (hs2.map V.str) ∧ SqH K H b (bs2.map V.str) ∧
  (limOk m hs2 bs2 = true → ∀ H', GoE T [r] H H' → RAt C H' r d ow gs m hs2 bs2 → Q .non H') ∧ (limOk m hs2 bs2 = false → E (.ref CR) none H)
section
variable {P : Program} {w : World} {K : PySem.W.Frag} {mg : Str → Option Value} {base : Heap} {T : Tb} {C CR CS : Addr}
theorem scLi : FnScope ["self", "most_signs", "heads", "barred"] ["self", "most_signs", "heads", "barred"] (defScope sLimit) := ⟨rfl, rfl, rfl, by decide +kernel, rfl, by decide +kernel, by decide +kernel⟩
theorem ok_limit {f : Addr} {fd : FuncData} (F : Fun K "limit" "Rules.limit" sLimit f fd) (L : Cl K mg C) (X : Er K mg CR CS) (Y : Tx K mg) : FnOk P w K mg base (L2.CX P w) 1 f fd ["self", "most_signs", "heads", "barred"] (spLimit K C T CR) := by
  refine F.okX scLi (fun vs H Q E h => ?_) (fun cdv A outer s H vs Q E hr h => ?_)
  · obtain ⟨r, d, a, b, m, ow, gs, ms, hs, bs, hs2, bs2, rfl, _⟩ := h
    rfl
  · obtain ⟨r, d, a, b, m, ow, gs, ms, hs, bs, hs2, bs2, rfl, ra, tk, ha, hb, k1, k2⟩ := h
    refine ⟨_, pss_cons (ps_if (PW.pt (pw_or (pt_cmpR op_lt (pv 1) pe_int (nomark _)) (pw_or (pt_cmpR op_in_seq pe_str (pv 2) (by rfl)) (pw_or1 (pt_cmpR op_in_seq pe_str (pv 3) (by rfl))))))
        (pss_one (ps_raise rfl (takes_of rfl rfl rfl rfl) (pmk_own PySem.F.excBase_ValueError X.xR X.gR X.kR (raises_own X.bR X.tR) rfl))) pss_nil)
      (pss_one (ps_asg (pe_tup (pa_cons (pv 1) (pa_cons (pe_tupV (i := 2) Y.tuple rfl (pv 2)) (pa_cons (pe_tupV (i := 3) Y.tuple rfl (pv 3)) pa_nil))))
        (pg_tup rfl (pgs_cons (pg_fld (pv 0)) (pgs_cons (pg_fld (pv 0)) (pgs_cons (pg_fld (pv 0)) pgs_nil)))))), ?_⟩
    obtain ⟨⟨dx, o, hh, bb, er, ho, hhs, hbs⟩, ed⟩ := id ra
    have rd := ra.ne
    refine ⟨_, rfl, _, _, rfl, rfl, _, rfl, orR (fun e1 => iteT (k2 ?_)) (fun e1 => ⟨_, rfl, a, _, rfl, ha.sq, rfl, flat_strs _, _, rfl, ?_⟩)⟩
    · have e : ¬ 1 ≤ m := by simpa using e1
      unfold limOk
      rw [decide_eq_false e]
      rfl
    have hm : 1 ≤ m := by
      have : ¬ m < 1 := by simpa using e1
      omega
    rw [if_neg Bool.false_ne_true, inV_str]
    refine orR (fun e2 => iteT (k2 ?_)) (fun e2 => ⟨_, rfl, b, _, rfl, hb.sq, rfl, flat_strs _, _, rfl, ?_⟩)
    · unfold limOk
      rw [e2]
      simp
    rw [if_neg Bool.false_ne_true, inV_str]
    refine ite2 (fun e3 => k2 ?_) (fun e3 => ?_)
    · unfold limOk
      rw [e3]
      simp
    have hok : limOk m hs2 bs2 = true := by
      unfold limOk
      have e3 : decide (("" : Str) ∈ bs2) = false := by simpa using e3
      rw [e2, e3, decide_eq_true hm]
      rfl
    refine ⟨_, rfl, a, _, rfl, ha, fun l1 H1 n1 => ⟨b, _, rfl, hb.ext (n1.go (S := []) tk) (by simp), fun l2 H2 n2 => ⟨by show 3 ≤ sizeLine; decide, fun t ht => ?_⟩⟩⟩
    have g1 : Go T H H1 := n1.go tk
    have g2 : Go T H1 H2 := n2.go g1.2
    have el1 := n1.1
    have el2 := n2.1
    have g3 : GoE T [r] H (upd H2 t (.tup [.int m, .ref l1, .ref l2])) := (Go.any (g1.trans g2)).trans (go_upd g2.2 ht)
    have up3 : ExtT H2 (upd H2 t (.tup [.int m, .ref l1, .ref l2])) := (go_upd (S := []) (o := .tup [.int m, .ref l1, .ref l2]) g2.2 ht).t
    have el1 := up3 _ _ (g2.t _ _ el1)
    have el2 := up3 _ _ el2
    have e3 : upd H2 t (.tup [.int m, .ref l1, .ref l2]) r = some (.ins C dx (flds o (.ref d) (.int ms) hh bb)) := by
      have := (g1.trans g2).at er
      rw [upd_ne (ne_of_none this ht)]
      exact this
    have et : upd H2 t (.tup [.int m, .ref l1, .ref l2]) t = some (.tup [.int m, .ref l1, .ref l2]) := upd_same
    have ed3 : upd H2 t (.tup [.int m, .ref l1, .ref l2]) d = some (.dK (gk gs)) := by
      have := (g1.trans g2).at ed
      rw [upd_ne (ne_of_none this ht)]
      exact this
    generalize upd H2 t (.tup [.int m, .ref l1, .ref l2]) = H3 at g3 e3 et el1 el2 ed3 ⊢
    have dr : d ∉ [r] := by simpa using rd.symm
    have st : ∀ {G : Hp} {fs : List (Str × V)} {fl : Str} {v : V}, GoE T [r] H G → G r = some (.ins C dx fs) → GoE T [r] G (upd G r (.ins C dx (putF fl v fs))) := fun g e => go_set g.2 e mu_ins (by simp)
    refine ⟨t, _, rfl, SqT.of et, rfl, _, _, rfl, _, rfl, r, C, dx, _, rfl, e3, L.cl, L.nM, by show 5 < 1000; decide, ?_⟩
    have w4 := st (fl := "most_signs") (v := .int m) g3 e3
    have e4 : upd H3 r (.ins C dx (putF "most_signs" (.int m) (flds o (.ref d) (.int ms) hh bb))) r = some (.ins C dx (flds o (.ref d) (.int m) hh bb)) := by rw [upd_same, put_m]
    have el1 := w4.t _ _ el1
    have el2 := w4.t _ _ el2
    have ed3 := w4.at ed3 dr
    have g4 := g3.trans w4
    generalize upd H3 r (.ins C dx (putF "most_signs" (.int m) (flds o (.ref d) (.int ms) hh bb))) = H4 at g4 e4 el1 el2 ed3 ⊢
    refine ⟨_, _, rfl, _, rfl, r, C, dx, _, rfl, e4, L.cl, L.nH, by show 5 < 1000; decide, ?_⟩
    have w5 := st (fl := "heads") (v := .ref l1) g4 e4
    have e5 : upd H4 r (.ins C dx (putF "heads" (.ref l1) (flds o (.ref d) (.int m) hh bb))) r = some (.ins C dx (flds o (.ref d) (.int m) (.ref l1) bb)) := by rw [upd_same, put_h]
    have el1 := w5.t _ _ el1
    have el2 := w5.t _ _ el2
    have ed3 := w5.at ed3 dr
    have g5 := g4.trans w5
    generalize upd H4 r (.ins C dx (putF "heads" (.ref l1) (flds o (.ref d) (.int m) hh bb))) = H5 at g5 e5 el1 el2 ed3 ⊢
    refine ⟨_, _, rfl, _, rfl, r, C, dx, _, rfl, e5, L.cl, L.nB, by show 5 < 1000; decide, rfl, ?_⟩
    have w6 := st (fl := "barred") (v := .ref l2) g5 e5
    refine k1 hok _ (g5.trans w6) ⟨⟨dx, o, .ref l1, .ref l2, ?_, ho.ext (g5.trans w6).t, ⟨l1, rfl, w6.t _ _ el1⟩, ⟨l2, rfl, w6.t _ _ el2⟩⟩, w6.at ed3 dr⟩
    rw [upd_same, put_b]
end
end R
end Text_R10
section Text_R11
set_option Elab.async false
set_option linter.all false
set_option maxRecDepth 100000
set_option maxHeartbeats 4000000
namespace R
open PySem PySem.Spec PyProof.Rows L2 Gx GxR
def RowIn (K : PySem.W.Frag) (H : Hp) (v : V) (r : Str × List Str) : Prop := ∃ t u, v = .ref t ∧ H t = some (.tup [.str r.1, .ref u]) ∧ SqH K H u (r.2.map V.str)
def rowOk (r : Str × List Str) : Bool := !decide (r.1 = "") && !decide (("" : Str) ∈ r.2)
/-- what is read of the rows stays -/
def RowsIn (K : PySem.W.Frag) (H : Hp) (xs : List V) (rows : Owns) : Prop := All2 (RowIn K H) xs rows
theorem RowIn.ext {T : Tb} {K : PySem.W.Frag} {H H' : Hp} {v : V} {r : Str × List Str} (h : RowIn K H v r) (g : Go T H H') : RowIn K H' v r := let ⟨t, u, a, b, c⟩ := h; ⟨t, u, a, g.t _ _ b, c.ext g (by simp)⟩
def spOwn (K : PySem.W.Frag) (C : Addr) (T : Tb) (CR : Addr) : Sp := fun vs H Q E => ∃ r d a ow gs ms hs bs xs rows, vs = [.ref r, .ref a] ∧ RAt C H r d ow gs ms hs bs ∧ TOk T H ∧ Sq K H a xs ∧ RowsIn K H xs rows ∧ rows.length ≤ 1000 ∧
  (rows.all rowOk = true → ∀ H', GoE T [r] H H' → RAt C H' r d rows gs ms hs bs → Q .non H') ∧ (rows.all rowOk = false → ∀ H', Go T H H' → E (.ref CR) none H')
abbrev NO : List Str := ["self", "rows", "pattern", "names"]
section
variable {P : Program} {w : World} {K : PySem.W.Frag} {mg : Str → Option Value} {base : Heap} {T : Tb} {C CR CS : Addr}
theorem scO : FnScope NO ["self", "rows"] (defScope sOwn) := ⟨rfl, rfl, rfl, by decide +kernel, rfl, by decide +kernel, by decide +kernel⟩
theorem ok_own {f c : Addr} {fd : FuncData} (F : FunC K "own" "Rules.own" sOwn f c fd) (L : Cl K mg C) (X : Er K mg CR CS) (Y : Tx K mg) (bo : TabB base mg c T.o) : FnOk P w K mg base (L2.CX P w) 3 f fd ["self", "rows"] (spOwn K C T CR) := by
  refine F.okX scO (fun vs H Q E h => ?_) (fun A outer s H vs Q E hr h => ?_)
  · obtain ⟨r, d, a, ow, gs, ms, hs, bs, xs, rows, rfl, _⟩ := h
    rfl
  · obtain ⟨r, d, a, ow, gs, ms, hs, bs, xs, rows, rfl, ra, tk, hsq, hrows, hlen, k1, k2⟩ := h
    refine ⟨_, pss_cons (ps_if (pt_val (pe_anyC (own := [("pattern", 2), ("names", 3)]) (k := 1) hr rfl Y.any ⟨_, bo.bm⟩ (mkC_base bo rfl) scO.nd (gOkC_by (N := NO) (sc := defScope sOwn) (by decide +kernel)) (pi_sq (pv 1))
          ⟨fun _ _ _ _ _ _ _ _ => pg_tupK K 2 rfl rfl (pgs_cons (pg_name (i := 2) scO.nd rfl (Or.inl rfl) (Or.inr rfl)) (pgs_cons (pg_name (i := 3) scO.nd rfl (Or.inl rfl) (Or.inr rfl)) pgs_nil)), fun _ _ _ _ _ _ _ _ => pts_nil,
            fun _ _ _ _ _ _ _ _ => pe_or (pe_cmpR op_eq (pv 2) pe_str (nomark _)) (pe_one (pe_cmpR (op_in_seqK K rfl) pe_str (pv 3) (by rfl)))⟩))
        (pss_one (ps_raise rfl (takes_of rfl rfl rfl rfl) (pmk_own PySem.F.excBase_ValueError X.xR X.gR X.kR (raises_own X.bR X.tR) rfl))) pss_nil)
      (pss_one (ps_fld (pv 0) (pe_tupleC (own := [("pattern", 2), ("names", 3)]) (k := 1) hr rfl Y.tuple ⟨_, bo.bm⟩ (mkC_base bo rfl) scO.nd (gOkC_by (N := NO) (sc := defScope sOwn) (by decide +kernel)) (pi_sq (pv 1))
          ⟨fun _ _ _ _ _ _ _ _ => pg_tupK K 2 rfl rfl (pgs_cons (pg_name (i := 2) scO.nd rfl (Or.inl rfl) (Or.inr rfl)) (pgs_cons (pg_name (i := 3) scO.nd rfl (Or.inl rfl) (Or.inr rfl)) pgs_nil)), fun _ _ _ _ _ _ _ _ => pts_nil,
            fun _ _ _ _ _ _ _ _ => pe_tup (pa_cons (pv 2) (pa_cons (pe_tupVK K rfl (i := 3) Y.tuple (by rfl) (pv 3)) pa_nil))⟩) rfl)), ?_⟩
    obtain ⟨⟨dx, o, hh, bb, er, ho, hhs, hbs⟩, ed⟩ := id ra
    have rd := ra.ne
    refine ⟨_, rfl, a, xs, rfl, sq_read hsq fun J St hst stab ov => ⟨tk.o, fun H2 cd tb => ?_⟩⟩
    have g2 : Go T H H2 := tk.ox tb
    refine turns_of xs.length (fun i G => Go T H G ∧ ∀ q ∈ rows.take i, rowOk q = true) ⟨g2, fun q hq => by simp at hq⟩ (fun G h => ⟨ov.stop G (stab T [] H G h.1 (fun _ _ _ => by simp) hst), ?_⟩) (fun i G hi h => ⟨ov.go i G (stab T [] H G h.1 (fun _ _ _ => by simp) hst) hi, fun x G' y => ?_⟩)
    · -- none is wrong
      have hall : rows.all rowOk = true := by
        rw [List.all_eq_true]
        intro q hq
        refine h.2 q ?_
        rw [List.take_of_length_le (Nat.le_of_eq hrows.1.symm)]
        exact hq
      have hu1 : r ∉ ([] : List Addr) := by simp
      refine ⟨false, rfl, iteF' (by decide) ⟨_, rfl, a, xs, rfl, sq_read (h.1.seqS hsq) fun J2 St2 hst2 stab2 ov2 => ⟨h.1.2.o, fun H3 cd3 tb3 S hS => ?_⟩⟩⟩
      have g3 : Go T H H3 := h.1.trans (h.1.2.ox tb3)
      have g4 := g3.trans (go_upd (o := .lst []) g3.2 hS)
      have hSf : Fresh H S := fresh_of g3 hS
      have hSg : Fresh G S := fresh_of (h.1.2.ox tb3) hS
      have st3 : ∀ {G' : Hp}, Go T G G' → St2 G' := fun g => stab2 T [] G _ g (fun _ _ _ => by simp) hst2
      refine turnsK_of xs.length (fun i G' => Go T H G' ∧ St2 G' ∧ ∃ acc, G' S = some (.lst acc) ∧ All2 (OwRow G') acc (rows.take i)) ⟨g4, st3 ((h.1.2.ox tb3).trans (go_upd (o := .lst []) g3.2 hS)), [], upd_same, All2.nil⟩ (fun G' h' => ⟨ov2.stop G' h'.2.1, ?_⟩) (fun i G' hi h' => ⟨ov2.go i G' h'.2.1 hi, fun x G2 y => ?_⟩)
      · obtain ⟨g5, _, acc, eS, al⟩ := h'
        rw [List.take_of_length_le (Nat.le_of_eq hrows.1.symm)] at al
        refine ⟨acc, eS, fun p hp => ?_⟩
        have g6 : Go T H (upd G' p (.tup acc)) := g5.trans (go_upd g5.2 hp)
        have x6 : ExtT G' (upd G' p (.tup acc)) := (go_upd (S := []) (o := .tup acc) g5.2 hp).t
        have er6 := g6.at er
        have ed6 := g6.at ed
        have ep : upd G' p (.tup acc) p = some (.tup acc) := upd_same
        generalize upd G' p (.tup acc) = G6 at g6 x6 er6 ed6 ep ⊢
        refine ⟨_, rfl, r, C, dx, _, rfl, er6, L.cl, L.nO, by show 5 < 1000; decide, ?_⟩
        have w7 : GoE T [r] G6 (upd G6 r (.ins C dx (putF "owners" (.ref p) (flds o (.ref d) (.int ms) hh bb)))) := go_set g6.2 er6 mu_ins (by simp)
        refine k1 hall _ ((Go.any g6).trans w7) ⟨⟨dx, .ref p, hh, bb, by rw [upd_same, put_o], ⟨p, acc, rfl, w7.t _ _ ep, al.imp fun _ _ q => (q.ext x6).ext w7.t⟩, (hhs.ext g6.t).ext w7.t, (hbs.ext g6.t).ext w7.t⟩, w7.at ed6 (by simpa using rd.symm)⟩
      · obtain ⟨g5, s5, acc, eS, al⟩ := h'
        obtain ⟨rfl, hx⟩ := ov2.yld i G' x G2 s5 hi y
        obtain ⟨q, hq, t, u, rfl, et, eu⟩ := hrows.at hx
        have et := g5.t _ _ et
        have eu := eu.ext g5 (by simp)
        refine ⟨t, _, rfl, SqT.of et, rfl, _, _, rfl, _, _, rfl, rfl, rfl, _, rfl, u, _, rfl, eu, fun l G3 n3 => ⟨by show 2 ≤ sizeLine; decide, fun v hv => ?_⟩⟩
        have w3 : Go T G2 G3 := n3.go g5.2
        have w4 : Go T G3 (upd G3 v (.tup [.str q.1, .ref l])) := go_upd w3.2 hv
        have el := w4.t _ _ n3.1
        have ev : upd G3 v (.tup [.str q.1, .ref l]) v = some (.tup [.str q.1, .ref l]) := upd_same
        have eS3 := (w3.trans w4).at eS
        have w34 := w3.trans w4
        generalize upd G3 v (.tup [.str q.1, .ref l]) = G4 at w4 el ev eS3 w34 ⊢
        have hal : acc.length < sizeLine := by
          rw [al.1, sizeLine_eq]
          have : (rows.take i).length ≤ rows.length := by rw [List.length_take]; exact Nat.min_le_right _ _
          omega
        have w5 : GoE T [S] G4 (upd G4 S (.lst (acc ++ [.ref v]))) := go_set w34.2 eS3 mu_lst (by simp)
        refine ⟨acc, eS3, hal, GoE.news (g5.trans w34) w5 (fun b hb => by rw [List.mem_singleton.mp hb]; exact hSf), ?_, _, upd_same, ?_⟩
        · exact stab2 T [S] _ _ ((Go.any w34).trans w5) (fun o e n => by
            intro z
            rw [List.mem_singleton.mp z] at e
            obtain ⟨ps, q⟩ := hSg o e
            exact n ps q) s5
        · rw [take_snoc hq]
          exact (al.imp fun _ _ q => (q.ext w34.t).ext w5.t).snoc ⟨v, l, rfl, w5.t _ _ ev, w5.t _ _ el⟩
    · obtain ⟨rfl, hx⟩ := ov.yld i G x G' (stab T [] H G h.1 (fun _ _ _ => by simp) hst) hi y
      obtain ⟨q, hq, t, u, rfl, et, eu⟩ := hrows.at hx
      have et := h.1.t _ _ et
      have eu := eu.ext h.1 (by simp)
      refine ⟨t, _, rfl, SqT.of et, rfl, _, _, rfl, _, _, rfl, rfl, ?_⟩
      have nall : rowOk q = false → rows.all rowOk = false := fun hb => by
        rw [← Bool.not_eq_true, List.all_eq_true]
        intro z
        have := z q (List.mem_of_getElem? hq)
        rw [hb] at this
        cases this
      have good : rowOk q = true → (Go T H G' ∧ ∀ q ∈ rows.take (i + 1), rowOk q = true) := fun hg => ⟨h.1, fun p hp => by
        rw [take_snoc hq] at hp
        rcases List.mem_append.mp hp with z | z
        · exact h.2 p z
        · rw [List.mem_singleton.mp z]; exact hg⟩
      refine ⟨rfl, _, rfl, rfl, _, rfl, orR (fun e1 => ⟨true, rfl, iteF' (by decide) ⟨true, rfl, iteT (k2 (nall ?_) G' h.1)⟩⟩) (fun e1 => ⟨_, rfl, u, _, rfl, eu.sq, rfl, flat_strs _, _, rfl, ?_⟩)⟩
      · have e : q.1 = "" := V.str.inj (of_decide_eq_true e1)
        unfold rowOk
        rw [decide_eq_true e]
        rfl
      · have n1 : ¬ q.1 = "" := fun z => (of_decide_eq_false e1) (congrArg V.str z)
        show (if inV (.str "") (q.2.map V.str) = false then _ else _)
        rw [inV_str]
        by_cases hm : ("" : Str) ∈ q.2
        · refine iteF' (by rw [decide_eq_true hm]; decide) ⟨true, rfl, iteT (k2 (nall ?_) G' h.1)⟩
          unfold rowOk
          rw [decide_eq_true hm]
          simp
        · refine (if_pos (decide_eq_false hm)).mpr (good ?_)
          unfold rowOk
          rw [decide_eq_false n1, decide_eq_false hm]
          rfl
end
end R
end Text_R11
section Text_R12
set_option Elab.async false
set_option linter.all false
set_option maxRecDepth 100000
set_option maxHeartbeats 4000000
namespace R
open PySem PySem.Spec PyProof.Rows L2 Gx GxR
/-- {x: v for x in ..} of texts -/
theorem dc_uniqO {J : It} {St : Hp → Prop} {xs : List Str} {i : Nat} {v : V} {tv : TE} {σ : L2.St} {H1 : Hp} {D : Addr} {Qd : Hp → Prop} (ov : Ov J St (xs.map V.str)) (hi : i < σ.length) (hS2 : ∀ u, St (upd H1 D u)) (hl : xs.length ≤ 1000)
    (htv : ∀ σ H (Q : VK), Q v H → tv σ H Q) (h : Qd (upd H1 D (.dK (keyTab v (uniq xs))))) :
    ∃ W : Nat → Nat → Hp → Prop, (∃ m, W 0 m (upd H1 D (.dK []))) ∧ ∀ j m H, W j m H →
      (J.stop j H ∧ Qd H) ∨ (J.go j H ∧ ∃ Nx : Hp → Prop, (∀ H', Nx H' → ∃ m', m' < m ∧ W (j + 1) m' H') ∧ ∀ x H', J.yld j H x H' → gName i x (wipe σ [i]) H' fun σ2 H2 => wipe σ2 [i] = wipe σ [i] ∧ tYes σ2 H2 fun b H3 =>
        if b = true then tVar i σ2 H3 fun y H4 => tv σ2 H4 fun z H5 => ∃ kvs k, y = kV k ∧ H5 D = some (.dK kvs) ∧ kvs.length < sizeLine ∧ Nx (upd H5 D (.dK (putK kvs k z))) else Nx H3) := by
  refine ⟨fun j m G => j + m = xs.length ∧ G = upd H1 D (.dK (keyTab v (uniq (xs.take j)))), ⟨xs.length, Nat.zero_add _, rfl⟩, fun j m G w => ?_⟩
  obtain ⟨e, rfl⟩ := w
  rcases Nat.lt_or_ge j xs.length with hj | hj
  · refine .inr ⟨ov.go j _ (hS2 _) (by rw [List.length_map]; exact hj), fun G => G = upd H1 D (.dK (keyTab v (uniq (xs.take (j + 1))))), fun G' e' => ⟨m - 1, by omega, by omega, e'⟩, fun x G' yy => ?_⟩
    obtain ⟨rfl, hx⟩ := ov.yld j _ x G' (hS2 _) (by rw [List.length_map]; exact hj) yy
    clear yy
    obtain ⟨y, hy, rfl⟩ := str_at hx
    refine ⟨wipe_one, .str y, ?_, htv _ _ _ ⟨keyTab v (uniq (xs.take j)), Sum.inr y, (rfl : V.str y = kV (Sum.inr y)), upd_same, ?_, ?_⟩⟩
    · rw [List.getElem?_set_self]
      rw [wipe_length]
      exact hi
    · rw [keyTab_len, sizeLine_eq]
      have h1 := uniq_len (xs.take j)
      have h2 : (xs.take j).length ≤ xs.length := by rw [List.length_take]; omega
      omega
    · show _ = _
      rw [upd_upd, put_key, uniq_take hy]
  · have e2 : j = xs.length := by omega
    subst e2
    refine .inl ⟨?_, ?_⟩
    · have := ov.stop _ (hS2 (.dK (keyTab v (uniq (xs.take xs.length)))))
      rw [List.length_map] at this
      exact this
    · rw [List.take_length]
      exact h
def fnd (ow : Owns) (p : Str) : List Str := ow.foldl (fun a r => if fitS r.1 p = true then r.2 else a) []
/-- who owns a path -/
def own (ow : Owns) (p : Str) : List Str := so (fnd ow p)
def small (ow : Owns) : Prop := ow.length ≤ 50 ∧ ∀ r ∈ ow, r.1.cps.toList.length ≤ 8 ∧ r.2.length ≤ 30
def spOwners (C : Addr) (T : Tb) : Sp := fun vs H Q _ => ∃ r d p ow gs ms hs bs, vs = [.ref r, .str p] ∧ RAt C H r d ow gs ms hs bs ∧ TOk T H ∧ small ow ∧ p.cps.toList.length ≤ 1000 ∧
  ∀ H' l, Go T H H' → H' l = some (.tup ((own ow p).map V.str)) → Q (.ref l) H'
abbrev NW : List Str := ["self", "path", "found", "pattern", "names", "name"]
section
variable {P : Program} {w : World} {K : PySem.W.Frag} {mg : Str → Option Value} {base : Heap} {T : Tb} {C : Addr}
theorem scW : FnScope NW ["self", "path"] (defScope sOwners) := ⟨rfl, rfl, rfl, by decide +kernel, rfl, by decide +kernel, by decide +kernel⟩
theorem ok_owners {f fF : Addr} {fd fdF : FuncData} (F : Fun K "owners_of" "Rules.owners_of" sOwners f fd) (L : Cl K mg C) (Y : Tx K mg) (GF : FnOk P w K mg base CX0 18 fF fdF ["pattern", "path"] (spFits T 8)) (mF : mg "fits" = some (.ref fF))
    (kF : PySem.W.keepIn K (.ref fF) = true) (bF : Binds K fdF ["pattern", "path"] []) : FnOk P w K mg base CX0 19 f fd ["self", "path"] (spOwners C T) := by
  refine F.ok scW (fun vs H Q E h => ?_) (fun cdv A outer s H vs Q E hr h => ?_)
  · obtain ⟨r, d, p, ow, gs, ms, hs, bs, rfl, _⟩ := h
    rfl
  · obtain ⟨r, d, p, ow, gs, ms, hs, bs, rfl, ra, tk, hsm, hp, k1⟩ := h
    refine ⟨_, pss_cons (ps_set (i := 2) scW.nd rfl (Or.inl rfl) (pe_tup pa_nil))
      (pss_cons (ps_for PassesOwn.never rfl (pi_tup (pe_fld (pv 0) rfl)) (pg_tup rfl (pgs_cons (pg_name (i := 3) scW.nd rfl (Or.inl rfl)) (pgs_cons (pg_name (i := 4) scW.nd rfl (Or.inl rfl)) pgs_nil)))
        (pss_one (ps_set (i := 2) scW.nd rfl (Or.inl rfl) (pe_ifExp (pt_val (pe_call GF hr rfl mF kF bF .nil pass0 (pa_cons (pv 3) (pa_cons (pv 1) pa_nil)))) (pv 4) (pv 2)))))
      (pss_one (ps_ret (pe_callTy call_tuple_of (by rfl) Y.tuple (by decide +kernel) (pa_cons (pe_callB (call_sortedD rfl) (by rfl) Y.sorted (by decide +kernel) (pa_cons (pe_dc (own := [("name", 5)]) (g := gName 5) rfl scW.nd (pi_tup (pv 2))
          (blkOk_by (N := NW) (sc := defScope sOwners) (by decide +kernel)) (fun _ _ _ _ _ => pg_name (i := 5) scW.nd rfl (Or.inl rfl)) (fun _ _ _ _ _ => pts_nil) (fun _ _ _ _ _ => pv 5) (fun _ _ _ _ _ => pe_bl)) pa_nil)) pa_nil))))), ?_⟩
    obtain ⟨⟨dx, o, hh, bb, er, ⟨ot, oxs, rfl, eo, al⟩, hhs, hbs⟩, ed⟩ := id ra
    refine ⟨by show 0 ≤ sizeLine; decide, fun t0 h0 => ?_⟩
    have g0 : Go T H (upd H t0 (.tup [])) := go_upd tk h0
    have et0 : upd H t0 (.tup []) t0 = some (.tup []) := upd_same
    generalize upd H t0 (.tup []) = H0 at g0 et0 ⊢
    refine ⟨_, rfl, r, C, dx, _, _, rfl, g0.at er, L.cl, L.nO, look_o, ot, rfl, ⟨oxs, SqT.of (g0.t _ _ eo)⟩, for_tup (xs := oxs) (fun i σ G => Go T H G ∧ ∃ t v3 v4, σ = [some (.ref r), some (.str p), some (.ref t), v3, v4, none] ∧ G t = some (.tup ((fnd (ow.take i) p).map V.str))) ?_ ?_ ?_ ?_⟩
    · exact ⟨g0, t0, none, none, rfl, et0⟩
    · intro i σ G _ h
      exact SqT.of (h.1.t _ _ eo)
    · intro i x σ G hix h
      obtain ⟨g, t, v3, v4, rfl, et⟩ := h
      obtain ⟨q, hq, t1, u1, rfl, e1, e2⟩ := al.at hix
      have hqs := hsm.2 q (List.mem_of_getElem? hq)
      have ft : fnd (ow.take (i + 1)) p = if fitS q.1 p = true then q.2 else fnd (ow.take i) p := by
        unfold fnd
        rw [take_snoc hq, List.foldl_append]
        rfl
      refine ⟨t1, _, rfl, SqT.of (g.t _ _ e1), rfl, _, _, rfl, _, _, rfl, rfl, _, rfl, _, rfl, q.1, p, rfl, hqs.1, by decide, hp, g.2, fun G2 g2 => ⟨_, rfl, ?_⟩⟩
      have gg := g.trans g2
      refine ite2 (fun e => ⟨_, rfl, gg, u1, _, _, rfl, ?_⟩) (fun e => ⟨_, rfl, gg, t, _, _, rfl, ?_⟩)
      · rw [ft, if_pos e]
        exact gg.t _ _ e2
      · rw [ft, if_neg e]
        exact g2.t _ _ et
    · intro σ G h
      obtain ⟨g, t, v3, v4, rfl, et⟩ := h
      have fl : (fnd ow p).length ≤ 30 := by
        have : ∀ (l : Owns) (a : List Str), (∀ r ∈ l, r.2.length ≤ 30) → a.length ≤ 30 → (l.foldl (fun a r => if fitS r.1 p = true then r.2 else a) a).length ≤ 30 := by
          intro l
          induction l with
          | nil => exact fun a _ h => h
          | cons r l ih =>
            intro a hl ha
            refine ih _ (fun r hr => hl r (List.mem_cons_of_mem _ hr)) ?_
            show (if fitS r.1 p = true then r.2 else a).length ≤ 30
            split
            · exact hl r List.mem_cons_self
            · exact ha
        exact this ow [] (fun r hr => (hsm.2 r hr).2) (Nat.zero_le _)
      rw [List.take_of_length_le (Nat.le_of_eq al.1.symm)] at et
      refine ⟨_, rfl, t, rfl, ⟨_, SqT.of et⟩, fun D hD => ?_⟩
      have htD : t ≠ D := ne_of_none et hD
      refine dc_uniqO (i := 5) (xs := fnd ow p) (St := fun G => SqT K G t ((fnd ow p).map V.str)) ov_t (by show (5 : Nat) < 6; decide) (fun u => SqT.of (by rw [upd_ne htD]; exact et)) (by omega) (fun _ _ _ q => q) ?_
      have g5 := g.trans (go_upd (o := .dK (keyTab (.bl true) (uniq (fnd ow p)))) g.2 hD)
      have hul := uniq_len (fnd ow p)
      refine ⟨D, _, uniq (fnd ow p), rfl, Rd.of upd_same, keyTab_keys _ _, by omega, fun ys S pm sr hS => ?_⟩
      have ey : ys = own ow p := srt_eq pm sr
      subst ey
      have g6 := g5.trans (go_upd (o := .lst ((own ow p).map V.str)) g5.2 hS)
      exact ⟨S, _, rfl, .inl ⟨SqL.of upd_same, fun l hl => k1 _ l (g6.trans (go_upd g6.2 hl)) upd_same⟩⟩
end
end R
end Text_R12
section Text_R13
set_option Elab.async false
set_option linter.all false
set_option maxRecDepth 100000
set_option maxHeartbeats 4000000
namespace R
open PySem PySem.Spec PyProof.Rows L2 Gx GxR
/-! plain data: whole numbers, texts, lists and tuples of them, n deep -/
def Pl : Nat → PyData → Bool
  | _, .none => true
  | _, .int _ => true
  | _, .str x => PyData.strOk x
  | n + 1, .list xs => xs.all (Pl n)
  | n + 1, .tuple xs => xs.all (Pl n)
  | _, _ => false
theorem pl_all {n : Nat} {p : PyData → Bool} (ih : ∀ d, Pl n d = true → d.canLay0 = true ∧ d.depth ≤ n) : ∀ ds : List PyData, ds.all (Pl n) = true → PyData.canLayAll0 ds = true ∧ PyData.depthAll ds ≤ n
  | [], _ => ⟨rfl, Nat.zero_le _⟩
  | d :: r, h => by
    rw [List.all_cons, Bool.and_eq_true] at h
    obtain ⟨a, b⟩ := ih d h.1
    obtain ⟨c, e⟩ := pl_all (p := p) ih r h.2
    refine ⟨?_, ?_⟩
    · show (PyData.canLay0 d && PyData.canLayAll0 r) = true
      rw [a, c]
      rfl
    · show max (PyData.depth d) (PyData.depthAll r) ≤ n
      omega
theorem pl_lay : ∀ (n : Nat) (d : PyData), Pl n d = true → d.canLay0 = true ∧ d.depth ≤ n
  | n, .none, _ => ⟨rfl, Nat.zero_le _⟩
  | n, .int _, _ => ⟨rfl, Nat.zero_le _⟩
  | n, .str x, h => ⟨by cases n <;> exact h, Nat.zero_le _⟩
  | n + 1, .list xs, h => by
    obtain ⟨a, b⟩ := pl_all (p := Pl n) (pl_lay n) xs h
    exact ⟨a, Nat.succ_le_succ b⟩
  | n + 1, .tuple xs, h => by
    obtain ⟨a, b⟩ := pl_all (p := Pl n) (pl_lay n) xs h
    exact ⟨a, Nat.succ_le_succ b⟩
  | 0, .list _, h => by cases h
  | 0, .tuple _, h => by cases h
  | n, .bool _, h => by cases n <;> cases h
  | n, .dict _, h => by cases n <;> cases h
theorem pl_shaped {n : Nat} {d : PyData} (h : Pl n d = true) (hn : n ≤ 64) : SeqAt.shaped d = true := by
  obtain ⟨a, b⟩ := pl_lay n d h
  show (PyData.canLay0 d && decide (PyData.depth d ≤ 64)) = true
  rw [a, decide_eq_true (Nat.le_trans b hn)]
  rfl
theorem pl_eqvs {n : Nat} (ih : ∀ d e, Pl n d = true → Pl n e = true → (PyData.eqv d e = true ↔ d = e)) : ∀ ds es : List PyData, ds.all (Pl n) = true → es.all (Pl n) = true → (PyData.eqvAll ds es = true ↔ ds = es)
  | [], [], _, _ => ⟨fun _ => rfl, fun _ => rfl⟩
  | [], _ :: _, _, _ => ⟨fun h => (by cases h), fun h => (by cases h)⟩
  | _ :: _, [], _, _ => ⟨fun h => (by cases h), fun h => (by cases h)⟩
  | d :: r, e :: s, h, k => by
    rw [List.all_cons, Bool.and_eq_true] at h k
    show ((PyData.eqv d e && PyData.eqvAll r s) = true) ↔ _
    rw [Bool.and_eq_true, ih d e h.1 k.1, pl_eqvs ih r s h.2 k.2, List.cons.injEq]
theorem pl_eqv : ∀ (n : Nat) (d e : PyData), Pl n d = true → Pl n e = true → (PyData.eqv d e = true ↔ d = e)
  | n, d, e, h, k => by
    cases d with
    | none => cases e <;> first | exact ⟨fun _ => rfl, fun _ => rfl⟩ | exact ⟨fun z => (by cases z), fun z => (by cases z)⟩
    | bool b => cases n <;> cases h
    | int i =>
      cases e with
      | int j =>
        show ((i == j) = true) ↔ _
        rw [beq_iff_eq, PyData.int.injEq]
      | bool b => cases n <;> cases k
      | _ => exact ⟨fun z => (by cases z), fun z => (by cases z)⟩
    | str x =>
      cases e with
      | str y =>
        show ((x == y) = true) ↔ _
        rw [beq_iff_eq, PyData.str.injEq]
      | _ => exact ⟨fun z => (by cases z), fun z => (by cases z)⟩
    | list xs =>
      cases n with
      | zero => cases h
      | succ n =>
        cases e with
        | list ys =>
          show (PyData.eqvAll xs ys = true) ↔ _
          rw [pl_eqvs (pl_eqv n) xs ys h k, PyData.list.injEq]
        | _ => exact ⟨fun z => (by cases z), fun z => (by cases z)⟩
    | tuple xs =>
      cases n with
      | zero => cases h
      | succ n =>
        cases e with
        | tuple ys =>
          show (PyData.eqvAll xs ys = true) ↔ _
          rw [pl_eqvs (pl_eqv n) xs ys h k, PyData.tuple.injEq]
        | _ => exact ⟨fun z => (by cases z), fun z => (by cases z)⟩
    | dict _ => cases n <;> cases h
theorem dp_map {α : Type} {K : PySem.W.Frag} {H : Hp} {f : α → V} {g : α → PyData} : ∀ l : List α, (∀ a ∈ l, Dp K H (f a) (g a)) → DpAll K H (l.map f) (l.map g)
  | [], _ => .nil
  | a :: r, h => .cons (h a (List.mem_cons_self ..)) (dp_map r fun b hb => h b (List.mem_cons_of_mem _ hb))
theorem dp_strs {K : PySem.W.Frag} {H : Hp} (xs : List Str) : DpAll K H (xs.map V.str) (xs.map PyData.str) := dp_map xs fun a _ => .str a
theorem dp_all2 {β : Type} {K : PySem.W.Frag} {H : Hp} {F : V → β → Prop} {g : β → PyData} (h : ∀ x y, F x y → Dp K H x (g y)) : ∀ (xs : List V) (ys : List β), All2 F xs ys → DpAll K H xs (ys.map g)
  | [], [], _ => .nil
  | [], _ :: _, a => by cases a.1
  | _ :: _, [], a => by cases a.1
  | x :: xs, y :: ys, a => .cons (h x y (a.2 0 x y rfl rfl)) (dp_all2 h xs ys ⟨by have := a.1; simpa using this, fun i u v h1 h2 => a.2 (i + 1) u v (by simpa using h1) (by simpa using h2)⟩)
def okS (x : Str) : Prop := PyData.strOk x = true
theorem pl_strs {n : Nat} {xs : List Str} (h : ∀ x ∈ xs, okS x) : (xs.map PyData.str).all (Pl n) = true := by
  rw [List.all_eq_true]
  intro d hd
  obtain ⟨x, hx, rfl⟩ := List.mem_map.mp hd
  cases n <;> exact h x hx
end R
end Text_R13
section Text_R14
set_option Elab.async false
set_option linter.all false
set_option maxRecDepth 100000
set_option maxHeartbeats 4000000
namespace R
open PySem PySem.Spec PyProof.Rows L2 Gx GxR
theorem look_no {m : Str} {o g q h b : V} (z : (["owners", "guarded", "most_signs", "heads", "barred"] : List Str).all (fun f => !decide (m = f)) = true) : (flds o g q h b).lookup m = none := by
  rw [List.all_eq_true] at z
  have e : ∀ f ∈ (["owners", "guarded", "most_signs", "heads", "barred"] : List Str), ¬ m = f := fun f hf => by simpa using z f hf
  unfold flds
  rw [look_ne (e _ (by simp)), look_ne (e _ (by simp)), look_ne (e _ (by simp)), look_ne (e _ (by simp)), look_ne (e _ (by simp))]
  rfl
def namesOk (ow : Owns) : Prop := ∀ r ∈ ow, ∀ n ∈ r.2, okS n
def filesOk (A : Files) : Prop := A.length ≤ 10 ∧ ∀ q ∈ A, q.1.cps.toList.length ≤ 1000 ∧ okS q.1 ∧ okS q.2
theorem fnd_mem {ow : Owns} {p n : Str} (h : n ∈ fnd ow p) : ∃ r ∈ ow, n ∈ r.2 := by
  have : ∀ (l : Owns) (a : List Str), n ∈ l.foldl (fun a r => if fitS r.1 p = true then r.2 else a) a → n ∈ a ∨ ∃ r ∈ l, n ∈ r.2 := by
    intro l
    induction l with
    | nil => exact fun a h => .inl h
    | cons r l ih =>
      intro a h
      rcases ih _ h with h | ⟨q, hq, h⟩
      · have h : n ∈ (if fitS r.1 p = true then r.2 else a) := h
        split at h
        · exact .inr ⟨r, List.mem_cons_self, h⟩
        · exact .inl h
      · exact .inr ⟨q, List.mem_cons_of_mem _ hq, h⟩
  rcases this ow [] h with h | h
  · cases h
  · exact h
theorem own_ok {ow : Owns} (h : namesOk ow) (p : Str) : ∀ n ∈ own ow p, okS n := fun n hn => by
  obtain ⟨r, hr, hm⟩ := fnd_mem ((mem_so _ _).mp hn)
  exact h r hr n hm
theorem paths_mem {A B : Files} {p : Str} (h : p ∈ paths A B) : (∃ q ∈ A, q.1 = p) ∨ ∃ q ∈ B, q.1 = p := by
  have := (mem_so _ _).mp h
  rcases List.mem_append.mp this with h | h
  · obtain ⟨q, hq, e⟩ := List.mem_map.mp h
    exact .inl ⟨q, hq, e⟩
  · obtain ⟨q, hq, e⟩ := List.mem_map.mp h
    exact .inr ⟨q, hq, e⟩
theorem paths_ok {A B : Files} (hA : filesOk A) (hB : filesOk B) : ∀ p ∈ paths A B, p.cps.toList.length ≤ 1000 ∧ okS p := fun p hp => by
  rcases paths_mem hp with ⟨q, hq, e⟩ | ⟨q, hq, e⟩
  · rw [← e]; exact ⟨(hA.2 q hq).1, (hA.2 q hq).2.1⟩
  · rw [← e]; exact ⟨(hB.2 q hq).1, (hB.2 q hq).2.1⟩
theorem chgOf_snd {A B : Files} {p : Str} {r : Str × Str} (h : chgOf A B p = some r) : r.2 = p := by
  unfold chgOf at h
  split at h
  · cases h; rfl
  · cases h; rfl
  · split at h <;> cases h
    rfl
theorem chg_mem {A B : Files} {r : Str × Str} (h : r ∈ chg A B) : r.2 ∈ paths A B := by
  obtain ⟨p, hp, e⟩ := List.mem_filterMap.mp h
  rw [chgOf_snd e]
  exact hp
theorem chg_len (A B : Files) : (chg A B).length ≤ A.length + B.length := by
  refine Nat.le_trans (List.length_filterMap_le _ _) (Nat.le_trans (so_len _) ?_)
  rw [List.length_append, List.length_map, List.length_map]
  exact Nat.le_refl _
/-- what differs and is owned -/
def needOf (ow : Owns) (r : Str × Str) : Option (Str × List Str) := if own ow r.2 = [] then none else some (r.2, own ow r.2)
def need (ow : Owns) (A B : Files) : Owns := (chg A B).filterMap (needOf ow)
def spNeed (C : Addr) (T : Tb) : Sp := fun vs H Q _ => ∃ r d a b A B ow gs ms hs bs, vs = [.ref r, .ref a, .ref b] ∧ RAt C H r d ow gs ms hs bs ∧ H a = some (.dK (fk A)) ∧ H b = some (.dK (fk B)) ∧ filesOk A ∧ filesOk B ∧ small ow ∧ namesOk ow ∧ TOk T H ∧
  ∀ H' l xs, Go T H H' → H' l = some (.tup xs) → All2 (OwRow H') xs (need ow A B) → Q (.ref l) H'
abbrev NN : List Str := ["self", "one", "other", "rows", "what", "path"]
section
variable {P : Program} {w : World} {K : PySem.W.Frag} {mg : Str → Option Value} {base : Heap} {T : Tb} {C : Addr}
theorem scN : FnScope NN ["self", "one", "other"] (defScope sNeeded) := ⟨rfl, rfl, rfl, by decide +kernel, rfl, by decide +kernel, by decide +kernel⟩
theorem ok_need {f fC fO : Addr} {fd fdC fdO : FuncData} (F : Fun K "needed" "Rules.needed" sNeeded f fd) (L : Cl K mg C) (Y : Tx K mg) (GC : FnOk P w K mg base CX0 1 fC fdC ["one", "other"] (spChg T)) (mC : mg "changes" = some (.ref fC))
    (kC : PySem.W.keepIn K (.ref fC) = true) (bC : Binds K fdC ["one", "other"] []) (GO : FnOk P w K mg base CX0 19 fO fdO ["self", "path"] (spOwners C T)) (mO : Meth K C "owners_of" fO) (bO : Binds K fdO ["self", "path"] []) :
    FnOk P w K mg base CX0 20 f fd ["self", "one", "other"] (spNeed C T) := by
  refine F.ok scN (fun vs H Q E h => ?_) (fun cdv A0 outer s H vs Q E hr h => ?_)
  · obtain ⟨r, d, a, b, A, B, ow, gs, ms, hs, bs, rfl, _⟩ := h
    rfl
  · obtain ⟨r, d, a, b, A, B, ow, gs, ms, hs, bs, rfl, ra, ha, hb, fA, fB, hsm, hno, tk, k1⟩ := h
    refine ⟨_, pss_cons (ps_set (i := 3) scN.nd rfl (Or.inl rfl) (pe_lst pa_nil))
      (pss_cons (ps_for PassesOwn.never rfl (pi_tup (pe_call GC (hr.mono (by decide)) rfl mC kC bC .nil pass0 (pa_cons (pv 1) (pa_cons (pv 2) pa_nil)))) (pg_tup rfl (pgs_cons (pg_name (i := 4) scN.nd rfl (Or.inl rfl)) (pgs_cons (pg_name (i := 5) scN.nd rfl (Or.inl rfl)) pgs_nil)))
        (pss_one (ps_if (pt_cmpR (op_neD hr.units) (pe_meth (pv 0) L.cl mO GO hr bO .nil pass0 (pa_cons (pv 5) pa_nil)) (pe_tup pa_nil) (nomark _))
          (pss_one (ps_expr (pe_bm PySem.F.plainAttrs_list PySem.F.slot_list_append PySem.F.type_list_append mt_append (pv 3) (pa_cons (pe_tup (pa_cons (pv 5) (pa_cons (pe_meth (pv 0) L.cl mO GO hr bO .nil pass0 (pa_cons (pv 5) pa_nil)) pa_nil))) pa_nil)))) pss_nil)))
      (pss_one (ps_ret (pe_tupV (i := 3) Y.tuple rfl (pv 3))))), ?_⟩
    refine ⟨by decide, fun l hl => ?_⟩
    have h1 : Go T H (upd H l (.lst [])) := go_upd tk hl
    have el1 : upd H l (.lst []) l = some (.lst []) := upd_same
    generalize upd H l (.lst []) = H1 at h1 el1 ⊢
    refine ⟨_, rfl, _, rfl, a, b, A, B, rfl, h1.at ha, h1.at hb, fA.1, fB.1, h1.2, fun G0 t xs g0 et al => ?_⟩
    have h0 := h1.trans g0
    have el0 := g0.at el1
    have ra0 : RAt C G0 r d ow gs ms hs bs := ra.ext h0 (by simp) (by simp)
    refine ⟨t, rfl, ⟨xs, SqT.of et⟩, for_tup (xs := xs) (fun i σ G => GoE T [l] G0 G ∧ (∃ v4 v5, σ = [some (.ref r), some (.ref a), some (.ref b), some (.ref l), v4, v5]) ∧ ∃ ys, G l = some (.lst ys) ∧ All2 (OwRow G) ys (((chg A B).take i).filterMap (needOf ow))) ?_ ?_ ?_ ?_⟩
    · exact ⟨GoE.refl g0.2, ⟨none, none, rfl⟩, [], el0, All2.nil⟩
    · intro i σ G _ h
      exact SqT.of (h.1.t _ _ et)
    · intro i x σ G hix h
      obtain ⟨g, ⟨v4, v5, rfl⟩, ys, el, aly⟩ := h
      obtain ⟨q, hq, t1, rfl, e1⟩ := al.at hix
      have rl : r ≠ l := by
        obtain ⟨⟨_, _, _, _, e, _⟩, _⟩ := ra0
        exact ne_of e el0 (by intro z; cases z)
      have dl : d ≠ l := ne_of ra0.gd el0 (by intro z; cases z)
      have raG : ∀ {G' : Hp}, GoE T [l] G0 G' → RAt C G' r d ow gs ms hs bs := fun g => ra0.ext g (by simpa using rl) (by simpa using dl)
      have pok := paths_ok fA fB q.2 (chg_mem (List.mem_of_getElem? hq))
      have hyl : ys.length ≤ 20 := by
        rw [aly.1]
        refine Nat.le_trans (List.length_filterMap_le _ _) ?_
        have h1 := chg_len A B
        have h2 : ((chg A B).take i).length ≤ (chg A B).length := by rw [List.length_take]; exact Nat.min_le_right _ _
        have := fA.1
        have := fB.1
        omega
      have st : (chg A B).take (i + 1) = (chg A B).take i ++ [q] := take_snoc hq
      obtain ⟨⟨dx, o, hh, bb, er, _, _, _⟩, _⟩ := raG g
      refine ⟨t1, _, rfl, SqT.of (g.t _ _ e1), rfl, _, _, rfl, _, _, rfl, rfl, _, rfl, r, dx, _, rfl, er, look_no (by decide +kernel), _, rfl, r, d, q.2, ow, gs, ms, hs, bs, rfl, raG g, g.2, hsm, pok.1, fun G2 l2 g2 e2 => ⟨by show 0 ≤ sizeLine; decide, fun t3 h3 => ?_⟩⟩
      have w3 : Go T G2 (upd G2 t3 (.tup [])) := go_upd g2.2 h3
      have e2 := w3.t _ _ e2
      have e3 : upd G2 t3 (.tup []) t3 = some (.tup []) := upd_same
      have gg : GoE T [l] G0 (upd G2 t3 (.tup [])) := g.trans (Go.any (g2.trans w3))
      have aly3 := aly.imp fun _ _ z => z.ext (g2.trans w3).t
      have el3 := (g2.trans w3).at el
      generalize upd G2 t3 (.tup []) = G3 at w3 e2 e3 gg aly3 el3 ⊢
      have sn : ∀ x ∈ own ow q.2, okS x := own_ok hno q.2
      have p1 : Pl 1 (.tuple ((own ow q.2).map PyData.str)) = true := pl_strs sn
      refine ⟨_, _, .tup (SqT.of e2) (dp_strs _), .tup (SqT.of e3) .nil, pl_shaped p1 (by decide), by decide, _, rfl, ?_⟩
      have ev : PyData.eqv (.tuple ((own ow q.2).map PyData.str)) (.tuple []) = decide (own ow q.2 = []) := by
        rw [Bool.eq_iff_iff, decide_eq_true_iff, pl_eqv 1 _ _ p1 rfl, PyData.tuple.injEq, List.map_eq_nil_iff]
      rw [ev]
      by_cases hn : own ow q.2 = []
      · refine iteF' (by rw [decide_eq_true hn]; decide) ⟨gg, ⟨_, _, rfl⟩, ys, el3, ?_⟩
        rw [st, List.filterMap_append]
        have e1 : [q].filterMap (needOf ow) = [] := by
          have hw : needOf ow q = none := if_pos hn
          simp [hw]
        rw [e1, List.append_nil]
        exact aly3
      · obtain ⟨⟨dx4, o4, hh4, bb4, er4, _, _, _⟩, _⟩ := raG gg
        refine (if_pos (by rw [decide_eq_false hn]; rfl)).mpr ⟨_, rfl, .inl ⟨rfl, _, SqL.of el3⟩, _, rfl, _, rfl, r, dx4, _, rfl, er4, look_no (by decide +kernel), _, rfl, r, d, q.2, ow, gs, ms, hs, bs, rfl, raG gg, gg.2, hsm, pok.1, fun G4 l4 g4 e4 => ⟨by show 2 ≤ sizeLine; decide, fun t5 h5 => ?_⟩⟩
        have w5 : Go T G4 (upd G4 t5 (.tup [.str q.2, .ref l4])) := go_upd g4.2 h5
        have e4 := w5.t _ _ e4
        have e5 : upd G4 t5 (.tup [.str q.2, .ref l4]) t5 = some (.tup [.str q.2, .ref l4]) := upd_same
        have g5 : GoE T [l] G0 (upd G4 t5 (.tup [.str q.2, .ref l4])) := gg.trans (Go.any (g4.trans w5))
        have aly5 := aly3.imp fun _ _ z => z.ext (g4.trans w5).t
        have el5 := (g4.trans w5).at el3
        generalize upd G4 t5 (.tup [.str q.2, .ref l4]) = G5 at w5 e4 e5 g5 aly5 el5 ⊢
        have w6 : GoE T [l] G5 (upd G5 l (.lst (ys ++ [.ref t5]))) := go_set g5.2 el5 mu_lst (by simp)
        refine ⟨l, ys, _, rfl, rfl, el5, by rw [sizeLine_eq]; omega, g5.trans w6, ⟨_, _, rfl⟩, _, upd_same, ?_⟩
        rw [st, List.filterMap_append]
        have e1 : [q].filterMap (needOf ow) = [(q.2, own ow q.2)] := by
          have hw : needOf ow q = some (q.2, own ow q.2) := if_neg hn
          simp [hw]
        rw [e1]
        exact (aly5.imp fun _ _ z => z.ext w6.t).snoc ⟨t5, l4, rfl, w6.t _ _ e5, w6.t _ _ e4⟩
    · intro σ G h
      obtain ⟨g, ⟨v4, v5, rfl⟩, ys, el, aly⟩ := h
      rw [List.take_of_length_le (Nat.le_of_eq al.1.symm)] at aly
      refine ⟨l, ys, rfl, .inl (SqL.of el), fun t2 G2 n2 => ?_⟩
      have g2 : GoE T [l] G G2 := n2.go g.2
      exact k1 _ t2 ys (GoE.news h0 (g.trans g2) fun b hb => by rw [List.mem_singleton.mp hb]; exact fresh_none hl) n2.1 (aly.imp fun _ _ z => z.ext g2.t)
end
end R
end Text_R14
section Text_R15
set_option Elab.async false
set_option linter.all false
set_option maxRecDepth 100000
set_option maxHeartbeats 4000000
namespace R
open PySem PySem.Spec PyProof.Rows L2 Gx GxR
theorem filter_snoc {xs : List Str} {pb : Str → Bool} {j : Nat} {y : Str} (h : xs[j]? = some y) : (xs.take (j + 1)).filter pb = (xs.take j).filter pb ++ (if pb y = true then [y] else []) := by
  rw [take_snoc h, List.filter_append]
  congr 1
  by_cases z : pb y = true
  · rw [if_pos z]; simp [z]
  · rw [if_neg z]; simp [z]
/-- {x: v for x in .. if ..} of texts -/
theorem dc_uniqP {J : It} {St : Hp → Prop} {xs : List Str} {i : Nat} {v : V} {tt : TT} {tv : TE} {σ : L2.St} {H1 : Hp} {D : Addr} {Qd : Hp → Prop} (pb : Str → Bool) (ov : Ov J St (xs.map V.str)) (hi : i < σ.length) (hS2 : ∀ u, St (upd H1 D u)) (hl : xs.length ≤ 1000)
    (htt : ∀ (y : Str) (G : Hp) (k : Bool → Hp → Prop), k (pb y) G → tt ((wipe σ [i]).set i (some (.str y))) G k)
    (htv : ∀ σ H (Q : VK), Q v H → tv σ H Q) (h : Qd (upd H1 D (.dK (keyTab v (uniq (xs.filter pb)))))) :
    ∃ W : Nat → Nat → Hp → Prop, (∃ m, W 0 m (upd H1 D (.dK []))) ∧ ∀ j m H, W j m H →
      (J.stop j H ∧ Qd H) ∨ (J.go j H ∧ ∃ Nx : Hp → Prop, (∀ H', Nx H' → ∃ m', m' < m ∧ W (j + 1) m' H') ∧ ∀ x H', J.yld j H x H' → gName i x (wipe σ [i]) H' fun σ2 H2 => wipe σ2 [i] = wipe σ [i] ∧ tt σ2 H2 fun b H3 =>
        if b = true then tVar i σ2 H3 fun y H4 => tv σ2 H4 fun z H5 => ∃ kvs k, y = kV k ∧ H5 D = some (.dK kvs) ∧ kvs.length < sizeLine ∧ Nx (upd H5 D (.dK (putK kvs k z))) else Nx H3) := by
  refine ⟨fun j m G => j + m = xs.length ∧ G = upd H1 D (.dK (keyTab v (uniq ((xs.take j).filter pb)))), ⟨xs.length, Nat.zero_add _, rfl⟩, fun j m G w => ?_⟩
  obtain ⟨e, rfl⟩ := w
  rcases Nat.lt_or_ge j xs.length with hj | hj
  · refine .inr ⟨ov.go j _ (hS2 _) (by rw [List.length_map]; exact hj), fun G => G = upd H1 D (.dK (keyTab v (uniq ((xs.take (j + 1)).filter pb)))), fun G' e' => ⟨m - 1, by omega, by omega, e'⟩, fun x G' yy => ?_⟩
    obtain ⟨rfl, hx⟩ := ov.yld j _ x G' (hS2 _) (by rw [List.length_map]; exact hj) yy
    clear yy
    obtain ⟨y, hy, rfl⟩ := str_at hx
    refine ⟨wipe_one, htt y _ _ ?_⟩
    by_cases hb : pb y = true
    · rw [hb]
      refine (if_pos rfl).mpr ⟨.str y, ?_, htv _ _ _ ⟨keyTab v (uniq ((xs.take j).filter pb)), Sum.inr y, (rfl : V.str y = kV (Sum.inr y)), upd_same, ?_, ?_⟩⟩
      · rw [List.getElem?_set_self]
        rw [wipe_length]
        exact hi
      · rw [keyTab_len, sizeLine_eq]
        have h1 := uniq_len ((xs.take j).filter pb)
        have h3 := List.length_filter_le pb (xs.take j)
        have h2 : (xs.take j).length ≤ xs.length := by rw [List.length_take]; omega
        omega
      · show _ = _
        rw [upd_upd, put_key, filter_snoc hy, if_pos hb, uniq_snoc]
    · rw [show pb y = false by simpa using hb]
      refine (if_neg Bool.false_ne_true).mpr ?_
      show _ = _
      rw [filter_snoc hy, if_neg hb, List.append_nil]
  · have e2 : j = xs.length := by omega
    subst e2
    refine .inl ⟨?_, ?_⟩
    · have := ov.stop _ (hS2 (.dK (keyTab v (uniq ((xs.take xs.length).filter pb)))))
      rw [List.length_map] at this
      exact this
    · rw [List.take_length]
      exact h
/-- who else agrees -/
def others (ag : List Str) (who : Str) : List Str := so (ag.filter fun x => !decide (x = who))
def shortOf (gs : Gs) (nm : Str) (ot : List Str) : Int := (gl gs nm).getD 0 - (ot.length : Int)
def agreeT (n : Int) : Str := ("agree " : Str) ++ (toString n : String)
def ownT (p : Str) : Str := ("own " : Str) ++ p
def lackOf (who : Str) (ot : List Str) (r : Str × List Str) : Option Str := if who ∈ r.2 ∨ (r.2.any fun o => decide (o ∈ ot)) = true then none else some (ownT r.1)
def lacks (gs : Gs) (nm who : Str) (ot : List Str) (nd : Owns) : List Str :=
  (if 0 < shortOf gs nm ot then [agreeT (shortOf gs nm ot)] else []) ++ (if (gl gs nm).isSome = true then nd.filterMap (lackOf who ot) else [])
theorem small_txt : ∀ n : Nat, n < 11 → (Str.ofString (toString ((n : Nat) : Int))).length ≤ 3 ∧ PyData.strOk (Str.ofString (toString ((n : Nat) : Int))) = true ∧ ((n : Nat) : Int).natAbs.log2 < 1920 := by decide +kernel
theorem small_int {i : Int} (h0 : 0 < i) (h : i ≤ 10) : (Str.ofString (toString i)).length ≤ 3 ∧ PyData.strOk (Str.ofString (toString i)) = true ∧ i.natAbs.log2 < 1920 := by
  obtain ⟨n, rfl⟩ : ∃ n : Nat, i = (n : Int) := ⟨i.toNat, by omega⟩
  exact small_txt n (by omega)
theorem app_l (a b : Str) : (a ++ b).cps.toList = a.cps.toList ++ b.cps.toList := by
  show (a.cps ++ b.cps).toList = _
  exact Array.toList_append
theorem app_n (a b : Str) : (a ++ b).length = a.length + b.length := by rw [← tl_len, ← tl_len, ← tl_len, app_l, List.length_append]
theorem emp_app (a : Str) : Str.empty ++ a = a := str_ext (by rw [app_l]; rfl)
def spLacks (K : PySem.W.Frag) (C : Addr) (T : Tb) : Sp := fun vs H Q _ => ∃ r d a b g A B ow gs ms hs bs nm who ag, vs = [.ref r, .str nm, .ref a, .ref b, .str who, .ref g] ∧ RAt C H r d ow gs ms hs bs ∧ H a = some (.dK (fk A)) ∧ H b = some (.dK (fk B)) ∧ filesOk A ∧ filesOk B ∧ small ow ∧ namesOk ow ∧ TOk T H ∧
  SqL K H g (ag.map V.str) ∧ ag.length ≤ 50 ∧ (∀ p ∈ gs, 0 ≤ p.2 ∧ p.2 ≤ 10) ∧
  ∀ H' l, Go T H H' → H' l = some (.tup ((lacks gs nm who (others ag who) (need ow A B)).map V.str)) → Q (.ref l) H'
abbrev NL : List Str := ["self", "name", "one", "other", "who", "agreed", "names", "found", "short", "path", "owners", "other_name", "owner"]
section
variable {P : Program} {w : World} {K : PySem.W.Frag} {mg : Str → Option Value} {base : Heap} {T : Tb} {C : Addr}
theorem scL : FnScope NL ["self", "name", "one", "other", "who", "agreed"] (defScope sLacks) := ⟨rfl, rfl, rfl, by decide +kernel, rfl, by decide +kernel, by decide +kernel⟩
theorem ok_lacks {f c fN : Addr} {fd fdN : FuncData} (F : FunC K "lacks" "Rules.lacks" sLacks f c fd) (L : Cl K mg C) (Y : Tx K mg) (bl : TabB base mg c T.l) (GN : FnOk P w K mg base CX0 20 fN fdN ["self", "one", "other"] (spNeed C T)) (mN : Meth K C "needed" fN)
    (bN : Binds K fdN ["self", "one", "other"] []) : FnOk P w K mg base CX0 21 f fd ["self", "name", "one", "other", "who", "agreed"] (spLacks K C T) := by
  refine F.ok scL (fun vs H Q E h => ?_) (fun A0 outer s H vs Q E hr h => ?_)
  · obtain ⟨r, d, a, b, g, A, B, ow, gs, ms, hs, bs, nm, who, ag, rfl, _⟩ := h
    rfl
  · obtain ⟨r, d, a, b, g, A, B, ow, gs, ms, hs, bs, nm, who, ag, rfl, ra, ha, hb, fA, fB, hsm, hno, tk, hg, hag, hgs, k1⟩ := h
    have hu := hu_of hr
    refine ⟨_, pss_cons (ps_set (i := 6) scL.nd rfl (Or.inr rfl) (pe_callB (call_sortedD rfl) (by rfl) Y.sorted (by decide +kernel) (pa_cons (pe_dc (own := [("other_name", 11)]) (g := gName 11) rfl scL.nd (pi_list (pv 5))
          (blkOk_by (N := NL) (sc := defScope sLacks) (by decide +kernel)) (fun _ _ _ _ _ => pg_name (i := 11) scL.nd rfl (Or.inl rfl)) (fun _ _ _ _ _ => pts_one (pt_cmpR op_ne (pv 11) (pv 4) (nomark _))) (fun _ _ _ _ _ => pv 11) (fun _ _ _ _ _ => pe_bl)) pa_nil)))
      (pss_cons (ps_set (i := 7) scL.nd rfl (Or.inl rfl) (pe_lst pa_nil))
      (pss_cons (ps_set (i := 8) scL.nd rfl (Or.inl rfl) (pe_op op_sub (pe_dget2 hu (pe_fld (pv 0) rfl) (pv 1) pe_int ⟨rfl, rfl, rfl, rfl⟩) (pe_callB call_len_seq (by rfl) Y.len PySem.boot_len (pa_cons (pv 6) pa_nil))))
      (pss_cons (ps_if (pt_cmpR op_gt (pv 8) pe_int (nomark _)) (pss_one (ps_expr (pe_bm PySem.F.plainAttrs_list PySem.F.slot_list_append PySem.F.type_list_append mt_append (pv 7) (pa_cons (pe_joined (.cons pe_str (.cons (pe_fmt (pv 8)) .nil))) pa_nil)))) pss_nil)
      (pss_cons (ps_if (pt_cmp (pc_din hu (pv 1) (pe_fld (pv 0) rfl)))
        (pss_one (ps_for PassesOwn.never rfl (pi_tup (pe_meth (pv 0) L.cl mN GN hr bN .nil pass0 (pa_cons (pv 2) (pa_cons (pv 3) pa_nil)))) (pg_tup rfl (pgs_cons (pg_name (i := 9) scL.nd rfl (Or.inl rfl)) (pgs_cons (pg_name (i := 10) scL.nd rfl (Or.inl rfl)) pgs_nil)))
          (pss_one (ps_if (PW.pt (pw_and (pt_cmpR op_notIn_seq (pv 4) (pv 10) (by rfl)) (pw_and1 (pt_not (pt_val (pe_anyC (own := [("owner", 12)]) (k := 19) hr rfl Y.any ⟨_, bl.bm⟩ (mkC_base bl rfl) scL.nd (gOkC_by (N := NL) (sc := defScope sLacks) (by decide +kernel)) (pi_tup (pv 10))
              ⟨fun _ _ _ _ _ _ _ _ => pg_name (i := 12) scL.nd rfl (Or.inl rfl), fun _ _ _ _ _ _ _ _ => pts_nil, fun _ _ _ _ _ _ _ _ => pe_cmpR (op_in_seqK K rfl) (pv 12) (pv 6) (by rfl)⟩))))))
            (pss_one (ps_expr (pe_bm PySem.F.plainAttrs_list PySem.F.slot_list_append PySem.F.type_list_append mt_append (pv 7) (pa_cons (pe_joined (.cons pe_str (.cons (pe_fmt (pv 9)) .nil))) pa_nil)))) pss_nil)))) pss_nil)
      (pss_one (ps_ret (pe_tupV (i := 7) Y.tuple rfl (pv 7)))))))), ?_⟩
    refine ⟨_, rfl, g, rfl, ⟨_, hg⟩, fun D hD => ?_⟩
    have hgs2 : ∀ u, SqL K (upd H D u) g (ag.map V.str) := fun u => (go_upd (T := T) (S := []) (o := u) tk hD).seq hg
    refine dc_uniqP (i := 11) (xs := ag) (St := fun G => SqL K G g (ag.map V.str)) (fun x => !decide (x = who)) ov_l (by show (11 : Nat) < 13; decide) hgs2 (by omega) (fun y G k q => ⟨_, rfl, _, rfl, rfl, _, rfl, ?_⟩) (fun _ _ _ q => q) ?_
    · have e : (!decide (V.str y = V.str who)) = !decide (y = who) := by
        congr 1
        rw [Bool.eq_iff_iff, decide_eq_true_iff, decide_eq_true_iff]
        exact ⟨fun z => V.str.inj z, fun z => by rw [z]⟩
      rw [e]
      exact q
    have g1 : Go T H (upd H D (.dK (keyTab (.bl true) (uniq (ag.filter fun x => !decide (x = who)))))) := go_upd tk hD
    have hul := uniq_len (ag.filter fun x => !decide (x = who))
    have hfl := List.length_filter_le (fun x => !decide (x = who)) ag
    refine ⟨D, _, uniq (ag.filter fun x => !decide (x = who)), rfl, Rd.of upd_same, keyTab_keys _ _, by omega, fun ys S pm sr hS => ?_⟩
    have ey : ys = others ag who := srt_eq pm sr
    subst ey
    have hol : (others ag who).length ≤ 50 := by
      rw [pm.length_eq]
      omega
    have g2 := g1.trans (go_upd (o := .lst ((others ag who).map V.str)) g1.2 hS)
    have eS : upd (upd H D (.dK (keyTab (.bl true) (uniq (ag.filter fun x => !decide (x = who)))))) S (.lst ((others ag who).map V.str)) S = some (.lst ((others ag who).map V.str)) := upd_same
    generalize upd (upd H D (.dK (keyTab (.bl true) (uniq (ag.filter fun x => !decide (x = who)))))) S (.lst ((others ag who).map V.str)) = H2 at g2 eS ⊢
    refine ⟨by decide, fun l hl => ?_⟩
    have g3 := g2.trans (go_upd (o := .lst []) g2.2 hl)
    have hlS : l ≠ S := (ne_of_none eS hl).symm
    have eS3 : upd H2 l (.lst []) S = some (.lst ((others ag who).map V.str)) := by rw [upd_ne hlS.symm]; exact eS
    have el3 : upd H2 l (.lst []) l = some (.lst []) := upd_same
    have hlF : Fresh H l := fresh_of g2 hl
    generalize upd H2 l (.lst []) = H3 at g3 eS3 el3 ⊢
    have ra3 := ra.ext g3 (by simp) (by simp)
    obtain ⟨⟨dx, o, hh, bb, er, _, _, _⟩, ed⟩ := id ra3
    have eG : valV (gk gs) (Sum.inr nm) = (gl gs nm).map V.int := valV_gk gs nm
    have eD : ((gl gs nm).map V.int).getD (.int 0) = V.int ((gl gs nm).getD 0) := by cases gl gs nm <;> rfl
    have hgl : 0 ≤ (gl gs nm).getD 0 ∧ (gl gs nm).getD 0 ≤ 10 := by
      unfold gl
      cases hf : gs.find? fun q => decide (q.1 = nm) with
      | none => exact ⟨by decide, by decide⟩
      | some q => exact hgs q (List.mem_of_find?_eq_some hf)
    refine ⟨_, rfl, r, C, dx, _, _, rfl, er, L.cl, L.nG, look_g, d, rfl, .inl ⟨_, Rd.of ed⟩, _, rfl, _, DGet.k (k := Sum.inr nm) ed, _, rfl, S, _, rfl, .inl (SqL.of eS3), ?_⟩
    rw [eG, eD]
    refine ⟨_, _, rfl, rfl, ?_⟩
    have eL : (((others ag who).map V.str).length : Int) = ((others ag who).length : Int) := by rw [List.length_map]
    rw [eL]
    have sh : (gl gs nm).getD 0 - ((others ag who).length : Int) = shortOf gs nm (others ag who) := rfl
    have sb : shortOf gs nm (others ag who) ≤ 10 := by
      unfold shortOf
      omega
    refine ⟨_, rfl, _, _, rfl, rfl, _, rfl, ite2 (fun e => ?_) (fun e => ?_)⟩
    · have e : decide (0 < shortOf gs nm (others ag who)) = true := e
      have e0 : 0 < shortOf gs nm (others ag who) := of_decide_eq_true e
      obtain ⟨tl, tok, tlog⟩ := small_int e0 sb
      have ln1 : (Str.empty ++ ("agree " : Str)).length = 6 := by rw [emp_app]; decide
      have ln2 : (Str.empty ++ ("agree " : Str) ++ Str.ofString (toString (shortOf gs nm (others ag who)))).length ≤ 9 := by
        rw [app_n, ln1]
        omega
      refine ⟨_, rfl, .inl ⟨rfl, _, SqL.of el3⟩, _, rfl, by rw [ln1, sizeLine_eq]; decide, _, rfl, .inr ⟨shortOf gs nm (others ag who), rfl, tlog, _, rfl, by rw [sizeLine_eq]; omega, l, [], _, rfl, rfl, el3, by decide, ?_⟩⟩
      have w4 : GoE T [l] H3 (upd H3 l (.lst ([] ++ [.str (Str.empty ++ ("agree " : Str) ++ Str.ofString (toString (shortOf gs nm (others ag who))))]))) := go_set g3.2 el3 mu_lst (by simp)
      have g4 := GoE.news g3 w4 fun b hb => by rw [List.mem_singleton.mp hb]; exact hlF
      have eS4 := w4.at eS3 (by simpa using hlS.symm)
      have el4 : upd H3 l (.lst ([] ++ [.str (Str.empty ++ ("agree " : Str) ++ Str.ofString (toString (shortOf gs nm (others ag who))))])) l = some (.lst (([agreeT (shortOf gs nm (others ag who))]).map V.str)) := by
        rw [upd_same, emp_app]
        rfl
      generalize upd H3 l (.lst ([] ++ [.str (Str.empty ++ ("agree " : Str) ++ Str.ofString (toString (shortOf gs nm (others ag who))))])) = H4 at w4 g4 eS4 el4 ⊢
      obtain ⟨fs, hfs, hf1, el4⟩ : ∃ fs : List Str, fs = (if 0 < shortOf gs nm (others ag who) then [agreeT (shortOf gs nm (others ag who))] else []) ∧ fs.length ≤ 1 ∧ H4 l = some (.lst (fs.map V.str)) := ⟨_, (if_pos e0).symm, Nat.le_refl _, el4⟩
      clear e w4
      have ra4 := ra.ext g4 (by simp) (by simp)
      have ha4 := g4.at ha
      have hb4 := g4.at hb
      obtain ⟨⟨dx4, o4, hh4, bb4, er4, _, _, _⟩, ed4⟩ := id ra4
      refine ⟨_, rfl, _, rfl, r, C, dx4, _, _, rfl, er4, L.cl, L.nG, look_g, d, _, rfl, DGet.k (k := Sum.inr nm) ed4, _, rfl, ?_⟩
      rw [eG]
      cases hgn : gl gs nm with
      | none =>
        refine iteF ⟨l, _, rfl, .inl (SqL.of el4), fun t G2 n2 => k1 _ t (g4.trans (n2.go g4.2)) ?_⟩
        have e := n2.1
        rw [e]
        unfold lacks
        rw [← hfs, hgn]
        simp
      | some gv =>
        refine iteT ⟨_, rfl, r, dx4, _, rfl, er4, look_no (by decide +kernel), _, rfl, _, rfl, r, d, a, b, A, B, ow, gs, ms, hs, bs, rfl, ra4, ha4, hb4, fA, fB, hsm, hno, g4.2, fun G0 t xs g0 et al => ?_⟩
        have h0 := g4.trans g0
        have el0 := g0.at el4
        have eS0 := g0.at eS4
        refine ⟨t, rfl, ⟨xs, SqT.of et⟩, for_tup (xs := xs) (fun i σ G => GoE T [l] G0 G ∧ (∃ v8 v9 v10, σ = [some (.ref r), some (.str nm), some (.ref a), some (.ref b), some (.str who), some (.ref g), some (.ref S), some (.ref l), v8, v9, v10, none, none]) ∧ G l = some (.lst ((fs ++ ((need ow A B).take i).filterMap (lackOf who (others ag who))).map V.str))) ?_ ?_ ?_ ?_⟩
        · exact ⟨GoE.refl g0.2, ⟨_, none, none, rfl⟩, by rw [List.take_zero]; simpa using el0⟩
        · intro i σ G _ h
          exact SqT.of (h.1.t _ _ et)
        · intro i x σ G hix h
          obtain ⟨gg, ⟨v8, v9, v10, rfl⟩, el⟩ := h
          obtain ⟨q, hq, t1, u1, rfl, e1, e2⟩ := al.at hix
          --TURN
          have eS := gg.at eS0 (by simpa using hlS.symm)
          have et1 := gg.t _ _ e1
          have eu := gg.t _ _ e2
          have st : (need ow A B).take (i + 1) = (need ow A B).take i ++ [q] := take_snoc hq
          have hcl := chg_len A B
          have hyl : (fs ++ ((need ow A B).take i).filterMap (lackOf who (others ag who))).length ≤ 30 := by
            rw [List.length_append]
            have h1 := List.length_filterMap_le (lackOf who (others ag who)) ((need ow A B).take i)
            have h2 : ((need ow A B).take i).length ≤ (need ow A B).length := by rw [List.length_take]; exact Nat.min_le_right _ _
            have h3 : (need ow A B).length ≤ (chg A B).length := List.length_filterMap_le _ _
            have := fA.1
            have := fB.1
            omega
          -- nothing is told
          have no : lackOf who (others ag who) q = none → ∀ G', GoE T [l] G0 G' → G' l = some (.lst ((fs ++ ((need ow A B).take i).filterMap (lackOf who (others ag who))).map V.str)) → G' l = some (.lst ((fs ++ ((need ow A B).take (i + 1)).filterMap (lackOf who (others ag who))).map V.str)) := by
            intro hw G' _ e
            rw [e, st, List.filterMap_append]
            simp [hw]
          refine ⟨t1, _, rfl, SqT.of et1, rfl, _, _, rfl, _, _, rfl, rfl, _, rfl, _, rfl, u1, _, rfl, .inr (SqT.of eu), rfl, flat_strs _, _, rfl, ?_⟩
          rw [if_pos rfl, inV_str]
          by_cases hw : who ∈ q.2
          · refine iteF' (by rw [decide_eq_true hw]; decide) ⟨gg, ⟨_, _, _, rfl⟩, no (if_pos (.inl hw)) _ gg el⟩
          · refine (if_pos (by rw [decide_eq_false hw]; rfl)).mpr ⟨_, rfl, u1, rfl, ⟨_, SqT.of eu⟩, gg.2.l, fun H5 cd tb => ?_⟩
            have g5 : GoE T [l] G H5 := gg.2.lx tb
            have keep : ∀ {G' : Hp}, GoE T [l] G G' → SqT K G' u1 (q.2.map V.str) := fun g => SqT.of (g.t _ _ eu)
            have ov : Ov (Itt K u1) (fun G => SqT K G u1 (q.2.map V.str)) (q.2.map V.str) := ov_t
            have hle : (q.2.map V.str).length = q.2.length := List.length_map _
            refine turns_of q.2.length (fun j G' => GoE T [] H5 G' ∧ ∀ o ∈ q.2.take j, ¬ o ∈ others ag who) ⟨GoE.refl g5.2, fun o ho => by simp at ho⟩ (fun G' h => ⟨?_, ?_⟩) (fun j G' hj h => ⟨ov.go j G' (keep (g5.trans (Go.any h.1))) (by rw [hle]; exact hj), fun x G2 y => ?_⟩)
            · have := ov.stop G' (keep (g5.trans (Go.any h.1)))
              rw [hle] at this
              exact this
            · -- none of them agrees
              have hno2 : (q.2.any fun o => decide (o ∈ others ag who)) = false := by
                rw [List.any_eq_false]
                intro o ho
                have := h.2 o (by rw [List.take_length]; exact ho)
                simpa using this
              have gg2 := gg.trans (g5.trans (Go.any h.1))
              have hz : lackOf who (others ag who) q = some (ownT q.1) := if_neg (by rintro (z | z); exact hw z; rw [hno2] at z; cases z)
              have el2 : G' l = some (.lst ((fs ++ ((need ow A B).take i).filterMap (lackOf who (others ag who))).map V.str)) := by
                have : ∀ {G1 G2 : Hp}, Go T G1 G2 → G1 l = some (.lst ((fs ++ ((need ow A B).take i).filterMap (lackOf who (others ag who))).map V.str)) → G2 l = some (.lst ((fs ++ ((need ow A B).take i).filterMap (lackOf who (others ag who))).map V.str)) := fun g e => g.at e
                exact this ((gg.2.lx tb).trans h.1) el
              obtain ⟨rq, hrq, erq⟩ := List.mem_filterMap.mp (List.mem_of_getElem? hq)
              have q1 : q.1.cps.toList.length ≤ 1000 := by
                have hp := (paths_ok fA fB rq.2 (chg_mem hrq)).1
                unfold needOf at erq
                split at erq
                · cases erq
                · cases erq
                  exact hp
              have ln0 : (Str.empty ++ ("own " : Str)).length = 4 := by rw [emp_app]; decide
              have ln1 : (Str.empty ++ ("own " : Str) ++ q.1).length ≤ 1004 := by
                rw [app_n, ln0]
                rw [tl_len] at q1
                omega
              have qs : q.1.length ≤ sizeLine := line1 q1 (Nat.le_refl _)
              refine ⟨false, rfl, iteT ⟨_, rfl, .inl ⟨rfl, _, SqL.of el2⟩, _, rfl, by rw [ln0, sizeLine_eq]; decide, _, rfl, .inl ⟨q.1, rfl, qs, _, rfl, by rw [sizeLine_eq]; omega, l, _, _, rfl, rfl, el2, by rw [List.length_map, sizeLine_eq]; omega, ?_⟩⟩⟩
              have w6 : GoE T [l] G' (upd G' l (.lst ((fs ++ ((need ow A B).take i).filterMap (lackOf who (others ag who))).map V.str ++ [.str (Str.empty ++ ("own " : Str) ++ q.1)]))) := go_set gg2.2 el2 mu_lst (by simp)
              refine ⟨gg2.trans w6, ⟨_, _, _, rfl⟩, ?_⟩
              rw [upd_same, st, List.filterMap_append, emp_app]
              simp [hz, ownT]
            · obtain ⟨rfl, hx⟩ := ov.yld j G' x G2 (keep (g5.trans (Go.any h.1))) (by rw [hle]; exact hj) y
              obtain ⟨o1, ho, rfl⟩ := str_at hx
              have el2 : GoE T [] G G2 → G2 l = some (.lst ((fs ++ ((need ow A B).take i).filterMap (lackOf who (others ag who))).map V.str)) := fun g => g.at el
              have el2 := el2 ((gg.2.lx tb).trans h.1)
              have gg2 := gg.trans (g5.trans (Go.any h.1))
              refine ⟨wipe_one, _, rfl, _, rfl, S, _, rfl, .inl (SqL.of (((gg.2.lx (S := []) tb).trans h.1).at eS)), rfl, flat_strs _, _, rfl, ?_⟩
              show (if inV (.str o1) ((others ag who).map V.str) = false then _ else _)
              rw [inV_str]
              by_cases hm : o1 ∈ others ag who
              · refine iteF' (by rw [decide_eq_true hm]; decide) ⟨true, rfl, iteF ⟨gg2, ⟨_, _, _, rfl⟩, no ?_ _ gg2 el2⟩⟩
                exact if_pos (.inr (List.any_eq_true.mpr ⟨o1, List.mem_of_getElem? ho, decide_eq_true hm⟩))
              · refine (if_pos (decide_eq_false hm)).mpr ⟨h.1, fun o hoo => ?_⟩
                rw [take_snoc ho] at hoo
                rcases List.mem_append.mp hoo with z | z
                · exact h.2 o z
                · rw [List.mem_singleton.mp z]; exact hm
        · intro σ G h
          obtain ⟨gg, ⟨v8, v9, v10, rfl⟩, el⟩ := h
          rw [List.take_of_length_le (Nat.le_of_eq al.1.symm)] at el
          refine ⟨l, _, rfl, .inl (SqL.of el), fun t2 G2 n2 => k1 _ t2 (GoE.news h0 (gg.trans (n2.go gg.2)) fun b hb => by rw [List.mem_singleton.mp hb]; exact hlF) ?_⟩
          have e := n2.1
          rw [e]
          unfold lacks
          rw [← hfs, hgn]
          rfl
    · have e0 : ¬ 0 < shortOf gs nm (others ag who) := fun z => e (decide_eq_true z)
      have el4 : H3 l = some (.lst (([] : List Str).map V.str)) := el3
      obtain ⟨fs, hfs, hf1, el4⟩ : ∃ fs : List Str, fs = (if 0 < shortOf gs nm (others ag who) then [agreeT (shortOf gs nm (others ag who))] else []) ∧ fs.length ≤ 1 ∧ H3 l = some (.lst (fs.map V.str)) := ⟨[], (if_neg e0).symm, Nat.zero_le _, el4⟩
      have g4 := g3
      have eS4 := eS3
      have ra4 := ra.ext g4 (by simp) (by simp)
      have ha4 := g4.at ha
      have hb4 := g4.at hb
      obtain ⟨⟨dx4, o4, hh4, bb4, er4, _, _, _⟩, ed4⟩ := id ra4
      refine ⟨_, rfl, _, rfl, r, C, dx4, _, _, rfl, er4, L.cl, L.nG, look_g, d, _, rfl, DGet.k (k := Sum.inr nm) ed4, _, rfl, ?_⟩
      rw [eG]
      cases hgn : gl gs nm with
      | none =>
        refine iteF ⟨l, _, rfl, .inl (SqL.of el4), fun t G2 n2 => k1 _ t (g4.trans (n2.go g4.2)) ?_⟩
        have e := n2.1
        rw [e]
        unfold lacks
        rw [← hfs, hgn]
        simp
      | some gv =>
        refine iteT ⟨_, rfl, r, dx4, _, rfl, er4, look_no (by decide +kernel), _, rfl, _, rfl, r, d, a, b, A, B, ow, gs, ms, hs, bs, rfl, ra4, ha4, hb4, fA, fB, hsm, hno, g4.2, fun G0 t xs g0 et al => ?_⟩
        have h0 := g4.trans g0
        have el0 := g0.at el4
        have eS0 := g0.at eS4
        refine ⟨t, rfl, ⟨xs, SqT.of et⟩, for_tup (xs := xs) (fun i σ G => GoE T [l] G0 G ∧ (∃ v8 v9 v10, σ = [some (.ref r), some (.str nm), some (.ref a), some (.ref b), some (.str who), some (.ref g), some (.ref S), some (.ref l), v8, v9, v10, none, none]) ∧ G l = some (.lst ((fs ++ ((need ow A B).take i).filterMap (lackOf who (others ag who))).map V.str))) ?_ ?_ ?_ ?_⟩
        · exact ⟨GoE.refl g0.2, ⟨_, none, none, rfl⟩, by rw [List.take_zero]; simpa using el0⟩
        · intro i σ G _ h
          exact SqT.of (h.1.t _ _ et)
        · intro i x σ G hix h
          obtain ⟨gg, ⟨v8, v9, v10, rfl⟩, el⟩ := h
          obtain ⟨q, hq, t1, u1, rfl, e1, e2⟩ := al.at hix
          --TURN
          have eS := gg.at eS0 (by simpa using hlS.symm)
          have et1 := gg.t _ _ e1
          have eu := gg.t _ _ e2
          have st : (need ow A B).take (i + 1) = (need ow A B).take i ++ [q] := take_snoc hq
          have hcl := chg_len A B
          have hyl : (fs ++ ((need ow A B).take i).filterMap (lackOf who (others ag who))).length ≤ 30 := by
            rw [List.length_append]
            have h1 := List.length_filterMap_le (lackOf who (others ag who)) ((need ow A B).take i)
            have h2 : ((need ow A B).take i).length ≤ (need ow A B).length := by rw [List.length_take]; exact Nat.min_le_right _ _
            have h3 : (need ow A B).length ≤ (chg A B).length := List.length_filterMap_le _ _
            have := fA.1
            have := fB.1
            omega
          -- nothing is told
          have no : lackOf who (others ag who) q = none → ∀ G', GoE T [l] G0 G' → G' l = some (.lst ((fs ++ ((need ow A B).take i).filterMap (lackOf who (others ag who))).map V.str)) → G' l = some (.lst ((fs ++ ((need ow A B).take (i + 1)).filterMap (lackOf who (others ag who))).map V.str)) := by
            intro hw G' _ e
            rw [e, st, List.filterMap_append]
            simp [hw]
          refine ⟨t1, _, rfl, SqT.of et1, rfl, _, _, rfl, _, _, rfl, rfl, _, rfl, _, rfl, u1, _, rfl, .inr (SqT.of eu), rfl, flat_strs _, _, rfl, ?_⟩
          rw [if_pos rfl, inV_str]
          by_cases hw : who ∈ q.2
          · refine iteF' (by rw [decide_eq_true hw]; decide) ⟨gg, ⟨_, _, _, rfl⟩, no (if_pos (.inl hw)) _ gg el⟩
          · refine (if_pos (by rw [decide_eq_false hw]; rfl)).mpr ⟨_, rfl, u1, rfl, ⟨_, SqT.of eu⟩, gg.2.l, fun H5 cd tb => ?_⟩
            have g5 : GoE T [l] G H5 := gg.2.lx tb
            have keep : ∀ {G' : Hp}, GoE T [l] G G' → SqT K G' u1 (q.2.map V.str) := fun g => SqT.of (g.t _ _ eu)
            have ov : Ov (Itt K u1) (fun G => SqT K G u1 (q.2.map V.str)) (q.2.map V.str) := ov_t
            have hle : (q.2.map V.str).length = q.2.length := List.length_map _
            refine turns_of q.2.length (fun j G' => GoE T [] H5 G' ∧ ∀ o ∈ q.2.take j, ¬ o ∈ others ag who) ⟨GoE.refl g5.2, fun o ho => by simp at ho⟩ (fun G' h => ⟨?_, ?_⟩) (fun j G' hj h => ⟨ov.go j G' (keep (g5.trans (Go.any h.1))) (by rw [hle]; exact hj), fun x G2 y => ?_⟩)
            · have := ov.stop G' (keep (g5.trans (Go.any h.1)))
              rw [hle] at this
              exact this
            · -- none of them agrees
              have hno2 : (q.2.any fun o => decide (o ∈ others ag who)) = false := by
                rw [List.any_eq_false]
                intro o ho
                have := h.2 o (by rw [List.take_length]; exact ho)
                simpa using this
              have gg2 := gg.trans (g5.trans (Go.any h.1))
              have hz : lackOf who (others ag who) q = some (ownT q.1) := if_neg (by rintro (z | z); exact hw z; rw [hno2] at z; cases z)
              have el2 : G' l = some (.lst ((fs ++ ((need ow A B).take i).filterMap (lackOf who (others ag who))).map V.str)) := by
                have : ∀ {G1 G2 : Hp}, Go T G1 G2 → G1 l = some (.lst ((fs ++ ((need ow A B).take i).filterMap (lackOf who (others ag who))).map V.str)) → G2 l = some (.lst ((fs ++ ((need ow A B).take i).filterMap (lackOf who (others ag who))).map V.str)) := fun g e => g.at e
                exact this ((gg.2.lx tb).trans h.1) el
              obtain ⟨rq, hrq, erq⟩ := List.mem_filterMap.mp (List.mem_of_getElem? hq)
              have q1 : q.1.cps.toList.length ≤ 1000 := by
                have hp := (paths_ok fA fB rq.2 (chg_mem hrq)).1
                unfold needOf at erq
                split at erq
                · cases erq
                · cases erq
                  exact hp
              have ln0 : (Str.empty ++ ("own " : Str)).length = 4 := by rw [emp_app]; decide
              have ln1 : (Str.empty ++ ("own " : Str) ++ q.1).length ≤ 1004 := by
                rw [app_n, ln0]
                rw [tl_len] at q1
                omega
              have qs : q.1.length ≤ sizeLine := line1 q1 (Nat.le_refl _)
              refine ⟨false, rfl, iteT ⟨_, rfl, .inl ⟨rfl, _, SqL.of el2⟩, _, rfl, by rw [ln0, sizeLine_eq]; decide, _, rfl, .inl ⟨q.1, rfl, qs, _, rfl, by rw [sizeLine_eq]; omega, l, _, _, rfl, rfl, el2, by rw [List.length_map, sizeLine_eq]; omega, ?_⟩⟩⟩
              have w6 : GoE T [l] G' (upd G' l (.lst ((fs ++ ((need ow A B).take i).filterMap (lackOf who (others ag who))).map V.str ++ [.str (Str.empty ++ ("own " : Str) ++ q.1)]))) := go_set gg2.2 el2 mu_lst (by simp)
              refine ⟨gg2.trans w6, ⟨_, _, _, rfl⟩, ?_⟩
              rw [upd_same, st, List.filterMap_append, emp_app]
              simp [hz, ownT]
            · obtain ⟨rfl, hx⟩ := ov.yld j G' x G2 (keep (g5.trans (Go.any h.1))) (by rw [hle]; exact hj) y
              obtain ⟨o1, ho, rfl⟩ := str_at hx
              have el2 : GoE T [] G G2 → G2 l = some (.lst ((fs ++ ((need ow A B).take i).filterMap (lackOf who (others ag who))).map V.str)) := fun g => g.at el
              have el2 := el2 ((gg.2.lx tb).trans h.1)
              have gg2 := gg.trans (g5.trans (Go.any h.1))
              refine ⟨wipe_one, _, rfl, _, rfl, S, _, rfl, .inl (SqL.of (((gg.2.lx (S := []) tb).trans h.1).at eS)), rfl, flat_strs _, _, rfl, ?_⟩
              show (if inV (.str o1) ((others ag who).map V.str) = false then _ else _)
              rw [inV_str]
              by_cases hm : o1 ∈ others ag who
              · refine iteF' (by rw [decide_eq_true hm]; decide) ⟨true, rfl, iteF ⟨gg2, ⟨_, _, _, rfl⟩, no ?_ _ gg2 el2⟩⟩
                exact if_pos (.inr (List.any_eq_true.mpr ⟨o1, List.mem_of_getElem? ho, decide_eq_true hm⟩))
              · refine (if_pos (decide_eq_false hm)).mpr ⟨h.1, fun o hoo => ?_⟩
                rw [take_snoc ho] at hoo
                rcases List.mem_append.mp hoo with z | z
                · exact h.2 o z
                · rw [List.mem_singleton.mp z]; exact hm
        · intro σ G h
          obtain ⟨gg, ⟨v8, v9, v10, rfl⟩, el⟩ := h
          rw [List.take_of_length_le (Nat.le_of_eq al.1.symm)] at el
          refine ⟨l, _, rfl, .inl (SqL.of el), fun t2 G2 n2 => k1 _ t2 (GoE.news h0 (gg.trans (n2.go gg.2)) fun b hb => by rw [List.mem_singleton.mp hb]; exact hlF) ?_⟩
          have e := n2.1
          rw [e]
          unfold lacks
          rw [← hfs, hgn]
          rfl
end
end R
end Text_R15
section Text_R16
set_option Elab.async false
set_option linter.all false
set_option maxRecDepth 100000
set_option maxHeartbeats 4000000
namespace R
open PySem PySem.Spec PyProof.Rows L2 Gx GxR
/-- any over texts, the test a Bool function of the text that may make things -/
theorem any_go {T : Tb} {S : List Addr} {J : It} {St : Hp → Prop} {xs : List Str} {i : Nat} {te : TE} {σ : L2.St} {Q : VK} {G0 : Hp} (ov : Ov J St (xs.map V.str)) (hSt : ∀ G, GoE T S G0 G → St G) (tk : TOk T G0) (pb : Str → Bool)
    (hte : ∀ x ∈ xs, ∀ (G : Hp) (Q' : VK), GoE T S G0 G → (∀ G', GoE T S G G' → Q' (.bl (pb x)) G') → te ((wipe σ [i]).set i (some (.str x))) G Q') (h : ∀ G, GoE T S G0 G → Q (.bl (xs.any pb)) G) :
    ∃ W : Nat → Nat → Hp → Prop, (∃ m, W 0 m G0) ∧ TurnG J (gName i) tYes te [i] (wipe σ [i]) Q false W := by
  have hle : (xs.map V.str).length = xs.length := List.length_map _
  refine turns_of xs.length (fun j G => GoE T S G0 G ∧ ∀ x ∈ xs.take j, pb x = false) ⟨GoE.refl tk, fun x hx => by simp at hx⟩ (fun G p => ⟨?_, ?_⟩) fun j G hj p => ⟨ov.go j G (hSt G p.1) (by rw [hle]; exact hj), fun x G2 y => ?_⟩
  · have := ov.stop G (hSt G p.1)
    rw [hle] at this
    exact this
  · have e : xs.any pb = false := by
      rw [List.any_eq_false]
      intro c hc
      have := p.2 c (by rw [List.take_length]; exact hc)
      simp [this]
    have q := h G p.1
    rw [e] at q
    exact q
  · obtain ⟨rfl, hx⟩ := ov.yld j G x G2 (hSt G p.1) (by rw [hle]; exact hj) y
    obtain ⟨z, hz, rfl⟩ := str_at hx
    refine ⟨wipe_one, hte z (List.mem_of_getElem? hz) _ _ p.1 fun G' g' => ⟨_, rfl, ?_⟩⟩
    have gg := p.1.trans g'
    cases hb : pb z with
    | true =>
      refine iteF' (by decide) ?_
      have e : xs.any pb = true := List.any_eq_true.mpr ⟨z, List.mem_of_getElem? hz, hb⟩
      have q := h G' gg
      rw [e] at q
      exact q
    | false =>
      refine (if_pos rfl).mpr ⟨gg, fun x hx => ?_⟩
      rw [take_snoc hz] at hx
      rcases List.mem_append.mp hx with m | m
      · exact p.2 x m
      · rw [List.mem_singleton.mp m]; exact hb
theorem lk_none {A : Files} {p : Str} (h : lk A p = none) : ∀ q ∈ A, q.1 ≠ p := fun q hq e => by
  unfold lk at h
  cases hf : A.find? fun q => decide (q.1 = p) with
  | none =>
    rw [List.find?_eq_none] at hf
    exact hf q hq (decide_eq_true e)
  | some u => rw [hf] at h; cases h
theorem lk_mem {A : Files} {p x : Str} (h : lk A p = some x) : ∃ q ∈ A, q.1 = p ∧ q.2 = x := by
  unfold lk at h
  cases hf : A.find? fun q => decide (q.1 = p) with
  | none => rw [hf] at h; cases h
  | some u =>
    rw [hf] at h
    have hq := List.find?_some hf
    have hq : u.1 = p := of_decide_eq_true hq
    exact ⟨u, List.mem_of_find?_eq_some hf, hq, Option.some.inj h⟩
/-- what isn't gone is there -/
theorem chg_there {A B : Files} {r : Str × Str} (h : r ∈ chg A B) (hg : r.1 ≠ "gone") : ∃ x, lk B r.2 = some x := by
  obtain ⟨p, hp, e⟩ := List.mem_filterMap.mp h
  rw [chgOf_snd e]
  cases hB : lk B p with
  | some x => exact ⟨x, rfl⟩
  | none =>
    exfalso
    unfold chgOf at e
    cases hA : lk A p with
    | none =>
      rcases paths_mem hp with ⟨q, hq, z⟩ | ⟨q, hq, z⟩
      · exact lk_none hA q hq z
      · exact lk_none hB q hq z
    | some y =>
      rw [hA, hB] at e
      cases e
      exact hg rfl
theorem chg_ok {A B : Files} (hA : filesOk A) (hB : filesOk B) : ∀ r ∈ chg A B, okS r.1 ∧ okS r.2 := fun r h => by
  refine ⟨?_, (paths_ok hA hB _ (chg_mem h)).2⟩
  obtain ⟨p, hp, e⟩ := List.mem_filterMap.mp h
  unfold chgOf at e
  split at e
  · cases e; exact (by unfold okS; decide +kernel : okS "come")
  · cases e; exact (by unfold okS; decide +kernel : okS "gone")
  · split at e <;> cases e
    exact (by unfold okS; decide +kernel : okS "other")
def pairD (q : Str × Str) : PyData := .tuple [.str q.1, .str q.2]
theorem pl_chg {A B : Files} (hA : filesOk A) (hB : filesOk B) : Pl 2 (.tuple ((chg A B).map pairD)) = true := by
  show ((chg A B).map pairD).all (Pl 1) = true
  rw [List.all_eq_true]
  intro d hd
  obtain ⟨q, hq, rfl⟩ := List.mem_map.mp hd
  obtain ⟨h1, h2⟩ := chg_ok hA hB q hq
  show (Pl 0 (.str q.1) && (Pl 0 (.str q.2) && true)) = true
  have h1 : Pl 0 (.str q.1) = true := h1
  have h2 : Pl 0 (.str q.2) = true := h2
  rw [h1, h2]
  rfl
def longT (p : Str) : Str := ("long " : Str) ++ p
def barT (p : Str) : Str := ("barred " : Str) ++ p
def isLong (B : Files) (ms : Int) (r : Str × Str) : Bool := !decide (r.1 = "gone") && decide (ms < (((lk B r.2).getD "").length : Int))
def isBar (bs : List Str) (r : Str × Str) : Bool := decide (r.1 = "come") && bs.any fun p => fitS p r.2
def faultRow (B : Files) (ms : Int) (bs : List Str) (r : Str × Str) : List Str := (if isLong B ms r = true then [longT r.2] else []) ++ (if isBar bs r = true then [barT r.2] else [])
def noHead (hs : List Str) (wd : Str) : Bool := !decide (hs = []) && !(hs.any fun h => Txt.startswith wd h)
def faults (A B : Files) (ms : Int) (hs bs : List Str) (wd : Str) : List Str := (chg A B).flatMap (faultRow B ms bs) ++ (if noHead hs wd = true then [("words" : Str)] else []) ++ (if chg A B = [] then [("empty" : Str)] else [])
def spFaults (C : Addr) (T : Tb) : Sp := fun vs H Q _ => ∃ r d a b A B ow gs ms hs bs wd, vs = [.ref r, .ref a, .ref b, .str wd] ∧ RAt C H r d ow gs ms hs bs ∧ H a = some (.dK (fk A)) ∧ H b = some (.dK (fk B)) ∧ filesOk A ∧ filesOk B ∧ TOk T H ∧
  (∀ p ∈ bs, p.cps.toList.length ≤ 8) ∧ (∀ h ∈ hs, okS h) ∧ (∀ q ∈ B, q.2.length ≤ 1000) ∧ ∀ H' l, Go T H H' → H' l = some (.tup ((faults A B ms hs bs wd).map V.str)) → Q (.ref l) H'
abbrev NU : List Str := ["self", "one", "other", "words", "rows", "found", "what", "path", "pattern", "head"]
section
variable {P : Program} {w : World} {K : PySem.W.Frag} {mg : Str → Option Value} {base : Heap} {T : Tb} {C : Addr}
theorem scU : FnScope NU ["self", "one", "other", "words"] (defScope sFaults) := ⟨rfl, rfl, rfl, by decide +kernel, rfl, by decide +kernel, by decide +kernel⟩
theorem ok_faults {f c fC fF : Addr} {fd fdC fdF : FuncData} (F : FunC K "faults" "Rules.faults" sFaults f c fd) (L : Cl K mg C) (Y : Tx K mg) (ba : TabB base mg c T.a) (GC : FnOk P w K mg base CX0 1 fC fdC ["one", "other"] (spChg T)) (mC : mg "changes" = some (.ref fC))
    (kC : PySem.W.keepIn K (.ref fC) = true) (bC : Binds K fdC ["one", "other"] []) (GF : FnOk P w K mg base CX0 18 fF fdF ["pattern", "path"] (spFits T 8)) (mF : mg "fits" = some (.ref fF)) (kF : PySem.W.keepIn K (.ref fF) = true) (bF : Binds K fdF ["pattern", "path"] []) :
    FnOk P w K mg base CX0 20 f fd ["self", "one", "other", "words"] (spFaults C T) := by
  refine F.ok scU (fun vs H Q E h => ?_) (fun A0 outer s H vs Q E hr h => ?_)
  · obtain ⟨r, d, a, b, A, B, ow, gs, ms, hs, bs, wd, rfl, _⟩ := h
    rfl
  · obtain ⟨r, d, a, b, A, B, ow, gs, ms, hs, bs, wd, rfl, ra, ha, hb, fA, fB, tk, hbs, hhs, hB, k1⟩ := h
    have hu := hu_of hr
    refine ⟨_, pss_cons (ps_par (i := 4) (j := 5) (by rfl) scU.nd rfl rfl (by decide) rfl rfl (pa_cons (pe_call GC (hr.mono (by decide)) rfl mC kC bC .nil pass0 (pa_cons (pv 1) (pa_cons (pv 2) pa_nil))) (pa_cons (pe_lst pa_nil) pa_nil)) (by rfl))
      (pss_cons (ps_for PassesOwn.never rfl (pi_tup (pv 4)) (pg_tup rfl (pgs_cons (pg_name (i := 6) scU.nd rfl (Or.inl rfl)) (pgs_cons (pg_name (i := 7) scU.nd rfl (Or.inr rfl)) pgs_nil)))
        (pss_cons (ps_if (PW.pt (pw_and (pt_cmpR op_ne (pv 6) pe_str (nomark _)) (pw_and1 (pt_cmpR op_gt (pe_callB call_len_str (by rfl) Y.len PySem.boot_len (pa_cons (pe_dget hu (pv 2) (pv 7) (fun _ _ => rfl)) pa_nil)) (pe_fld (pv 0) rfl) (nomark _)))))
          (pss_one (ps_expr (pe_bm PySem.F.plainAttrs_list PySem.F.slot_list_append PySem.F.type_list_append mt_append (pv 5) (pa_cons (pe_joined (.cons pe_str (.cons (pe_fmt (pv 7)) .nil))) pa_nil)))) pss_nil)
        (pss_one (ps_if (PW.pt (pw_and (pt_cmpR op_eq (pv 6) pe_str (nomark _)) (pw_and1 (pt_val (pe_anyC (own := [("pattern", 8)]) (k := 18) hr rfl Y.any ⟨_, ba.bm⟩ (mkC_base ba rfl) scU.nd (gOkC_by (N := NU) (sc := defScope sFaults) (by decide +kernel)) (pi_tup (pe_fld (pv 0) rfl))
              ⟨fun _ _ _ _ _ _ _ _ => pg_name (i := 8) scU.nd rfl (Or.inl rfl), fun _ _ _ _ _ _ _ _ => pts_nil, fun _ _ _ _ _ _ _ hr' => pe_call GF hr' rfl mF kF bF .nil pass0 (pa_cons (pv 8) (pa_cons (pv 7) pa_nil))⟩)))))
          (pss_one (ps_expr (pe_bm PySem.F.plainAttrs_list PySem.F.slot_list_append PySem.F.type_list_append mt_append (pv 5) (pa_cons (pe_joined (.cons pe_str (.cons (pe_fmt (pv 7)) .nil))) pa_nil)))) pss_nil))))
      (pss_cons (ps_if (PW.pt (pw_and (pt_cmpR (op_neD hr.units) (pe_fld (pv 0) rfl) (pe_tup pa_nil) (nomark _)) (pw_and1 (pt_not (pt_val (pe_anyC (own := [("head", 9)]) (k := 18) hr rfl Y.any ⟨_, ba.bm⟩ (mkC_base ba rfl) scU.nd (gOkC_by (N := NU) (sc := defScope sFaults) (by decide +kernel)) (pi_tup (pe_fld (pv 0) rfl))
              ⟨fun _ _ _ _ _ _ _ _ => pg_name (i := 9) scU.nd rfl (Or.inl rfl), fun _ _ _ _ _ _ _ _ => pts_nil, fun _ _ _ _ _ _ _ _ => pe_m1 PySem.F.slot_str_startswith PySem.F.type_str_startswith mt_startswith (pv 3) (pv 9)⟩))))))
          (pss_one (ps_expr (pe_bm PySem.F.plainAttrs_list PySem.F.slot_list_append PySem.F.type_list_append mt_append (pv 5) (pa_cons pe_str pa_nil)))) pss_nil)
      (pss_cons (ps_if (pt_cmpR (op_eqD hr.units) (pv 4) (pe_tup pa_nil) (nomark _)) (pss_one (ps_expr (pe_bm PySem.F.plainAttrs_list PySem.F.slot_list_append PySem.F.type_list_append mt_append (pv 5) (pa_cons pe_str pa_nil)))) pss_nil)
      (pss_one (ps_ret (pe_tupV (i := 5) Y.tuple rfl (pv 5))))))), ?_⟩
    refine ⟨_, rfl, _, rfl, a, b, A, B, rfl, ha, hb, fA.1, fB.1, tk, fun G0 t xs g0 et al => ⟨by decide, fun l hl => ?_⟩⟩
    have h1 : Go T H (upd G0 l (.lst [])) := g0.trans (go_upd g0.2 hl)
    have w1 : Go T G0 (upd G0 l (.lst [])) := go_upd g0.2 hl
    have et := w1.t _ _ et
    have al := al.imp fun _ _ h => PairAt.ext h w1.t
    have el1 : upd G0 l (.lst []) l = some (.lst []) := upd_same
    have hlF : Fresh H l := fresh_of g0 hl
    generalize upd G0 l (.lst []) = G1 at h1 et al el1 ⊢
    have ra1 := ra.ext h1 (by simp) (by simp)
    have rl : r ≠ l := by
      obtain ⟨⟨_, _, _, _, e, _⟩, _⟩ := ra1
      exact ne_of e el1 (by intro z; cases z)
    have dl : d ≠ l := ne_of ra1.gd el1 (by intro z; cases z)
    have raG : ∀ {G' : Hp}, GoE T [l] G1 G' → RAt C G' r d ow gs ms hs bs := fun g => ra1.ext g (by simpa using rl) (by simpa using dl)
    have hb1 := h1.at hb
    have bl' : b ≠ l := ne_of hb1 el1 (by intro z; cases z)
    have hbG : ∀ {G' : Hp}, GoE T [l] G1 G' → G' b = some (.dK (fk B)) := fun g => g.at hb1 (by simpa using bl')
    have hcl := chg_len A B
    have hA10 := fA.1
    have hB10 := fB.1
    -- an append
    have ap : ∀ {G : Hp} {fs : List Str} (z : Str), GoE T [l] G1 G → G l = some (.lst (fs.map V.str)) → GoE T [l] G1 (upd G l (.lst (fs.map V.str ++ [.str z]))) ∧ upd G l (.lst (fs.map V.str ++ [.str z])) l = some (.lst ((fs ++ [z]).map V.str)) := fun z g e => ⟨g.trans (go_set g.2 e mu_lst (by simp)), by rw [upd_same, List.map_append]; rfl⟩
    refine ⟨_, _, rfl, _, rfl, t, rfl, ⟨xs, SqT.of et⟩, for_tup (xs := xs) (fun i σ G => GoE T [l] G1 G ∧ (∃ v6 v7, σ = [some (.ref r), some (.ref a), some (.ref b), some (.str wd), some (.ref t), some (.ref l), v6, v7, none, none]) ∧ G l = some (.lst ((((chg A B).take i).flatMap (faultRow B ms bs)).map V.str))) ?_ ?_ ?_ ?_⟩
    · exact ⟨GoE.refl h1.2, ⟨none, none, rfl⟩, el1⟩
    · intro i σ G _ h
      exact SqT.of (h.1.t _ _ et)
    · intro i x σ G hix h
      obtain ⟨g, ⟨v6, v7, rfl⟩, el⟩ := h
      obtain ⟨q, hq, t1, rfl, e1⟩ := al.at hix
      have qm := List.mem_of_getElem? hq
      have pok := paths_ok fA fB q.2 (chg_mem qm)
      have qs : q.2.length ≤ sizeLine := line1 pok.1 (Nat.le_refl _)
      have q1 := pok.1
      rw [tl_len] at q1
      have st : (chg A B).take (i + 1) = (chg A B).take i ++ [q] := take_snoc hq
      have hyl : (((chg A B).take i).flatMap (faultRow B ms bs)).length ≤ 100 := by
        have : ∀ l : List (Str × Str), (l.flatMap (faultRow B ms bs)).length ≤ 2 * l.length := by
          intro l
          induction l with
          | nil => exact Nat.le_refl _
          | cons x r ih =>
            rw [List.flatMap_cons, List.length_append, List.length_cons]
            have : (faultRow B ms bs x).length ≤ 2 := by
              unfold faultRow
              rw [List.length_append]
              split <;> split <;> simp
            omega
        have h2 : ((chg A B).take i).length ≤ (chg A B).length := by rw [List.length_take]; exact Nat.min_le_right _ _
        have := this ((chg A B).take i)
        omega
      have LN0 : (Str.empty ++ ("long " : Str)).length = 5 := by rw [emp_app]; decide
      have LB0 : (Str.empty ++ ("barred " : Str)).length = 7 := by rw [emp_app]; decide
      obtain ⟨⟨dx, o, hh, bb, er, _, _, hbb⟩, _⟩ := raG g
      have dS : ∀ z : Str, decide (V.str q.1 = V.str z) = decide (q.1 = z) := fun z => by
        rw [Bool.eq_iff_iff, decide_eq_true_iff, decide_eq_true_iff]
        exact ⟨fun e => V.str.inj e, fun e => by rw [e]⟩
      refine ⟨t1, _, rfl, SqT.of (g.t _ _ e1), rfl, _, _, rfl, _, _, rfl, rfl, _, rfl, rfl, _, rfl, ?_⟩
      rw [dS]
      by_cases hg : q.1 = "gone"
      · have hlong : isLong B ms q = false := by
          unfold isLong
          rw [decide_eq_true hg]
          rfl
        refine (if_neg (by rw [decide_eq_true hg]; decide)).mpr ?_
        obtain ⟨⟨dx2, o2, hh2, bb2, er2, _, _, ⟨tb, rfl, etb⟩⟩, _⟩ := raG g
        refine ⟨_, rfl, rfl, _, rfl, ?_⟩
        rw [dS]
        by_cases hc : q.1 = "come"
        · refine (if_pos (decide_eq_true hc)).mpr ⟨_, rfl, r, C, dx2, _, _, rfl, er2, L.cl, L.nB, look_b, tb, rfl, ⟨_, SqT.of etb⟩, g.2.a, fun H5 cd tb5 => ?_⟩
          have g5 := g.trans (g.2.ax tb5)
          have el5 := ((g.2.ax (S := []) tb5)).at el
          have w5 : GoE T [l] _ H5 := g.2.ax tb5
          refine any_go (T := T) (S := []) (St := fun G => SqT K G tb (bs.map V.str)) ov_t (fun G6 g6 => SqT.of (g6.t _ _ (w5.t _ _ etb))) g5.2 (fun p => fitS p q.2) (fun p hp G6 Q' g6 k => ⟨_, rfl, _, rfl, p, q.2, rfl, hbs p hp, by decide, pok.1, g6.2, fun G7 g7 => k G7 g7⟩) fun G6 g6 => ⟨_, rfl, ?_⟩
          have g6' := g5.trans (Go.any g6)
          have el6 := g6.at el5
          refine ite2 (fun eb => ?_) (fun eb => ?_)
          · refine ⟨_, rfl, .inl ⟨rfl, _, SqL.of el6⟩, _, rfl, by rw [LB0, sizeLine_eq]; decide, _, rfl, .inl ⟨q.2, rfl, qs, _, rfl, by rw [app_n, LB0, sizeLine_eq]; omega, l, _, _, rfl, rfl, el6, by rw [List.length_map, sizeLine_eq]; omega, ?_⟩⟩
            obtain ⟨a1, a2⟩ := ap (Str.empty ++ ("barred " : Str) ++ q.2) g6' el6
            refine ⟨a1, ⟨_, _, rfl⟩, ?_⟩
            rw [a2, st, List.flatMap_append]
            have hbar : isBar bs q = true := by
              unfold isBar
              rw [decide_eq_true hc]
              exact eb
            simp [faultRow, hbar, hlong, longT, barT, emp_app]
          · refine ⟨g6', ⟨_, _, rfl⟩, ?_⟩
            rw [el6, st, List.flatMap_append]
            have hbar : isBar bs q = false := by
              unfold isBar
              rw [decide_eq_true hc]
              simpa using eb
            simp [faultRow, hbar, hlong, longT, emp_app]
        · refine (if_neg (by rw [decide_eq_false hc]; decide)).mpr ⟨g, ⟨_, _, rfl⟩, ?_⟩
          rw [el, st, List.flatMap_append]
          have hbar : isBar bs q = false := by
            unfold isBar
            rw [decide_eq_false hc]
            rfl
          simp [faultRow, hbar, hlong, longT, emp_app]

      · obtain ⟨x, hx⟩ := chg_there qm hg
        obtain ⟨qb, hqb, _, ex⟩ := lk_mem hx
        have hx1 : x.length ≤ 1000 := by rw [← ex]; exact hB qb hqb
        have dB : DGet G b (.str q.2) (some (.str x)) := by
          have := DGet.k (k := Sum.inr q.2) (hbG g)
          rw [valV_fk, hx] at this
          exact this
        refine (if_pos (by rw [decide_eq_false hg]; rfl)).mpr ⟨_, rfl, _, rfl, b, _, rfl, dB, _, rfl, by rw [sizeLine_eq]; omega, _, rfl, r, C, dx, _, _, rfl, er, L.cl, L.nM, look_m, _, _, rfl, rfl, _, rfl, ite2 (fun e => ?_) (fun e => ?_)⟩
        · have hlong : isLong B ms q = true := by
            unfold isLong
            rw [decide_eq_false hg, hx]
            exact e
          refine ⟨_, rfl, .inl ⟨rfl, _, SqL.of el⟩, _, rfl, by rw [LN0, sizeLine_eq]; decide, _, rfl, .inl ⟨q.2, rfl, qs, _, rfl, by rw [app_n, LN0, sizeLine_eq]; omega, l, _, _, rfl, rfl, el, by rw [List.length_map, sizeLine_eq]; omega, ?_⟩⟩
          obtain ⟨a1, a2⟩ := ap (Str.empty ++ ("long " : Str) ++ q.2) g el
          generalize upd G l (.lst ((((chg A B).take i).flatMap (faultRow B ms bs)).map V.str ++ [.str (Str.empty ++ ("long " : Str) ++ q.2)])) = G2 at a1 a2 ⊢
          obtain ⟨⟨dx2, o2, hh2, bb2, er2, _, _, ⟨tb, rfl, etb⟩⟩, _⟩ := raG a1
          refine ⟨_, rfl, rfl, _, rfl, ?_⟩
          rw [dS]
          by_cases hc : q.1 = "come"
          · refine (if_pos (decide_eq_true hc)).mpr ⟨_, rfl, r, C, dx2, _, _, rfl, er2, L.cl, L.nB, look_b, tb, rfl, ⟨_, SqT.of etb⟩, a1.2.a, fun H5 cd tb5 => ?_⟩
            have g5 := a1.trans (a1.2.ax tb5)
            have el5 := ((a1.2.ax (S := []) tb5)).at a2
            have w5 : GoE T [l] _ H5 := a1.2.ax tb5
            refine any_go (T := T) (S := []) (St := fun G => SqT K G tb (bs.map V.str)) ov_t (fun G6 g6 => SqT.of (g6.t _ _ (w5.t _ _ etb))) g5.2 (fun p => fitS p q.2) (fun p hp G6 Q' g6 k => ⟨_, rfl, _, rfl, p, q.2, rfl, hbs p hp, by decide, pok.1, g6.2, fun G7 g7 => k G7 g7⟩) fun G6 g6 => ⟨_, rfl, ?_⟩
            have g6' := g5.trans (Go.any g6)
            have el6 := g6.at el5
            refine ite2 (fun eb => ?_) (fun eb => ?_)
            · refine ⟨_, rfl, .inl ⟨rfl, _, SqL.of el6⟩, _, rfl, by rw [LB0, sizeLine_eq]; decide, _, rfl, .inl ⟨q.2, rfl, qs, _, rfl, by rw [app_n, LB0, sizeLine_eq]; omega, l, _, _, rfl, rfl, el6, by rw [List.length_map, sizeLine_eq]; rw [List.length_append, List.length_singleton]; omega, ?_⟩⟩
              obtain ⟨a1, a2⟩ := ap (Str.empty ++ ("barred " : Str) ++ q.2) g6' el6
              refine ⟨a1, ⟨_, _, rfl⟩, ?_⟩
              rw [a2, st, List.flatMap_append]
              have hbar : isBar bs q = true := by
                unfold isBar
                rw [decide_eq_true hc]
                exact eb
              simp [faultRow, hbar, hlong, longT, barT, emp_app]
            · refine ⟨g6', ⟨_, _, rfl⟩, ?_⟩
              rw [el6, st, List.flatMap_append]
              have hbar : isBar bs q = false := by
                unfold isBar
                rw [decide_eq_true hc]
                simpa using eb
              simp [faultRow, hbar, hlong, longT, emp_app]
          · refine (if_neg (by rw [decide_eq_false hc]; decide)).mpr ⟨a1, ⟨_, _, rfl⟩, ?_⟩
            rw [a2, st, List.flatMap_append]
            have hbar : isBar bs q = false := by
              unfold isBar
              rw [decide_eq_false hc]
              rfl
            simp [faultRow, hbar, hlong, longT, emp_app]

        · have hlong : isLong B ms q = false := by
            unfold isLong
            rw [decide_eq_false hg, hx]
            simpa using e
          obtain ⟨⟨dx2, o2, hh2, bb2, er2, _, _, ⟨tb, rfl, etb⟩⟩, _⟩ := raG g
          refine ⟨_, rfl, rfl, _, rfl, ?_⟩
          rw [dS]
          by_cases hc : q.1 = "come"
          · refine (if_pos (decide_eq_true hc)).mpr ⟨_, rfl, r, C, dx2, _, _, rfl, er2, L.cl, L.nB, look_b, tb, rfl, ⟨_, SqT.of etb⟩, g.2.a, fun H5 cd tb5 => ?_⟩
            have g5 := g.trans (g.2.ax tb5)
            have el5 := ((g.2.ax (S := []) tb5)).at el
            have w5 : GoE T [l] _ H5 := g.2.ax tb5
            refine any_go (T := T) (S := []) (St := fun G => SqT K G tb (bs.map V.str)) ov_t (fun G6 g6 => SqT.of (g6.t _ _ (w5.t _ _ etb))) g5.2 (fun p => fitS p q.2) (fun p hp G6 Q' g6 k => ⟨_, rfl, _, rfl, p, q.2, rfl, hbs p hp, by decide, pok.1, g6.2, fun G7 g7 => k G7 g7⟩) fun G6 g6 => ⟨_, rfl, ?_⟩
            have g6' := g5.trans (Go.any g6)
            have el6 := g6.at el5
            refine ite2 (fun eb => ?_) (fun eb => ?_)
            · refine ⟨_, rfl, .inl ⟨rfl, _, SqL.of el6⟩, _, rfl, by rw [LB0, sizeLine_eq]; decide, _, rfl, .inl ⟨q.2, rfl, qs, _, rfl, by rw [app_n, LB0, sizeLine_eq]; omega, l, _, _, rfl, rfl, el6, by rw [List.length_map, sizeLine_eq]; omega, ?_⟩⟩
              obtain ⟨a1, a2⟩ := ap (Str.empty ++ ("barred " : Str) ++ q.2) g6' el6
              refine ⟨a1, ⟨_, _, rfl⟩, ?_⟩
              rw [a2, st, List.flatMap_append]
              have hbar : isBar bs q = true := by
                unfold isBar
                rw [decide_eq_true hc]
                exact eb
              simp [faultRow, hbar, hlong, longT, barT, emp_app]
            · refine ⟨g6', ⟨_, _, rfl⟩, ?_⟩
              rw [el6, st, List.flatMap_append]
              have hbar : isBar bs q = false := by
                unfold isBar
                rw [decide_eq_true hc]
                simpa using eb
              simp [faultRow, hbar, hlong, longT, emp_app]
          · refine (if_neg (by rw [decide_eq_false hc]; decide)).mpr ⟨g, ⟨_, _, rfl⟩, ?_⟩
            rw [el, st, List.flatMap_append]
            have hbar : isBar bs q = false := by
              unfold isBar
              rw [decide_eq_false hc]
              rfl
            simp [faultRow, hbar, hlong, longT, emp_app]
    · intro σ G h
      obtain ⟨g, ⟨v6, v7, rfl⟩, el⟩ := h
      rw [List.take_of_length_le (Nat.le_of_eq al.1.symm)] at el
      generalize hFl : (chg A B).flatMap (faultRow B ms bs) = fl at el
      have hfl : fl.length ≤ 100 := by
        rw [← hFl]
        have : ∀ l : List (Str × Str), (l.flatMap (faultRow B ms bs)).length ≤ 2 * l.length := by
          intro l
          induction l with
          | nil => exact Nat.le_refl _
          | cons x r ih =>
            rw [List.flatMap_cons, List.length_append, List.length_cons]
            have : (faultRow B ms bs x).length ≤ 2 := by
              unfold faultRow
              rw [List.length_append]
              split <;> split <;> simp
            omega
        have := this (chg A B)
        omega
      obtain ⟨⟨dx, o, hh, bb, er, _, ⟨th, rfl, eth⟩, _⟩, _⟩ := raG g
      refine ⟨_, rfl, r, C, dx, _, _, rfl, er, L.cl, L.nH, look_h, by decide, fun t2 h2 => ?_⟩
      have w2 : Go T G (upd G t2 (.tup [])) := go_upd g.2 h2
      have eth2 := w2.t _ _ eth
      have e2 : upd G t2 (.tup []) t2 = some (.tup []) := upd_same
      have el2 := w2.at el
      have g2 := g.trans (Go.any w2)
      generalize upd G t2 (.tup []) = G2 at w2 eth2 e2 el2 g2 ⊢
      have p1 : Pl 1 (.tuple (hs.map PyData.str)) = true := pl_strs hhs
      refine ⟨_, _, .tup (SqT.of eth2) (dp_strs _), .tup (SqT.of e2) .nil, pl_shaped p1 (by decide), by decide, _, rfl, ?_⟩
      have ev0 : PyData.eqv (.tuple (hs.map PyData.str)) (.tuple []) = decide (hs = []) := by
        rw [Bool.eq_iff_iff, decide_eq_true_iff, pl_eqv 1 _ _ p1 rfl, PyData.tuple.injEq, List.map_eq_nil_iff]
      rw [ev0]
      by_cases hh0 : hs = []
      · refine iteF' (by rw [decide_eq_true hh0]; decide) ?_
        obtain ⟨fs2, hfs2, hfl2, e'⟩ : ∃ fs2 : List Str, fs2 = fl ++ (if noHead hs wd = true then [("words" : Str)] else []) ∧ fs2.length ≤ 101 ∧ G2 l = some (.lst (fs2.map V.str)) := ⟨fl, by rw [if_neg (by unfold noHead; rw [decide_eq_true hh0]; exact Bool.false_ne_true), List.append_nil], by omega, el2⟩
        rw [← hFl] at hfs2
        have g' := g2
        generalize G2 = G' at g' e' ⊢
        have et' := g'.t _ _ et
        have al' := al.imp fun _ _ h => PairAt.ext h g'.t
        refine ⟨_, rfl, by decide, fun t3 h3 => ?_⟩
        have w3 : Go T G' (upd G' t3 (.tup [])) := go_upd g'.2 h3
        have et3 := w3.t _ _ et'
        have al3 := al'.imp fun _ _ h => PairAt.ext h w3.t
        have e3 : upd G' t3 (.tup []) t3 = some (.tup []) := upd_same
        have el3 := w3.at e'
        have g3 := g'.trans (Go.any w3)
        generalize upd G' t3 (.tup []) = G3 at w3 et3 al3 e3 el3 g3 ⊢
        refine ⟨_, _, .tup (SqT.of et3) (dp_all2 (g := pairD) (fun x y h => by obtain ⟨t, rfl, et⟩ := h; exact .tup (SqT.of et) (.cons (.str _) (.cons (.str _) .nil))) _ _ al3), .tup (SqT.of e3) .nil, pl_shaped (pl_chg fA fB) (by decide), by decide, _, rfl, ?_⟩
        have ev : PyData.eqv (.tuple ((chg A B).map pairD)) (.tuple []) = decide (chg A B = []) := by
          rw [Bool.eq_iff_iff, decide_eq_true_iff, pl_eqv 2 _ _ (pl_chg fA fB) rfl, PyData.tuple.injEq, List.map_eq_nil_iff]
        rw [ev]
        by_cases hn : chg A B = []
        · refine (if_pos (decide_eq_true hn)).mpr ⟨_, rfl, .inl ⟨rfl, _, SqL.of el3⟩, l, _, _, rfl, rfl, el3, by rw [List.length_map, sizeLine_eq]; omega, ?_⟩
          obtain ⟨a1, a2⟩ := ap ("empty" : Str) g3 el3
          refine ⟨l, _, rfl, .inl (SqL.of a2), fun t2 G2 n2 => k1 _ t2 (GoE.news h1 (a1.trans (n2.go a1.2)) fun b hb => by rw [List.mem_singleton.mp hb]; exact hlF) ?_⟩
          have e := n2.1
          rw [e, hfs2]
          unfold faults
          rw [if_pos hn]
        · refine iteF' (by rw [decide_eq_false hn]; decide) ?_
          refine ⟨l, _, rfl, .inl (SqL.of el3), fun t2 G2 n2 => k1 _ t2 (GoE.news h1 (g3.trans (n2.go g3.2)) fun b hb => by rw [List.mem_singleton.mp hb]; exact hlF) ?_⟩
          have e := n2.1
          rw [e, hfs2]
          unfold faults
          rw [if_neg hn, List.append_nil]
      · refine (if_pos (by rw [decide_eq_false hh0]; rfl)).mpr ?_
        obtain ⟨⟨dx2, o2, hh2, bb2, er2, _, ⟨tb, rfl, etb⟩, _⟩, _⟩ := raG g2
        refine ⟨_, rfl, r, C, dx2, _, _, rfl, er2, L.cl, L.nH, look_h, tb, rfl, ⟨_, SqT.of etb⟩, g2.2.a, fun H5 cd tb5 => ?_⟩
        have g5 := g2.trans (g2.2.ax tb5)
        have el5 := ((g2.2.ax (S := []) tb5)).at el2
        have w5 : GoE T [l] _ H5 := g2.2.ax tb5
        refine any_go (T := T) (S := []) (St := fun G => SqT K G tb (hs.map V.str)) ov_t (fun G6 g6 => SqT.of (g6.t _ _ (w5.t _ _ etb))) g5.2 (fun p => Txt.startswith wd p) (fun p hp G6 Q' g6 k => ?SW) fun G6 g6 => ⟨_, rfl, ?_⟩
        case SW =>
          exact ⟨_, rfl, ⟨_, rfl⟩, _, rfl, wd, p, rfl, rfl, k G6 (GoE.refl g6.2)⟩
        have g6' := g5.trans (Go.any g6)
        have el6 := g6.at el5
        by_cases eb : (hs.any fun h => Txt.startswith wd h) = true
        · rw [eb]
          refine iteF' (by decide) ?_
          obtain ⟨fs2, hfs2, hfl2, e'⟩ : ∃ fs2 : List Str, fs2 = fl ++ (if noHead hs wd = true then [("words" : Str)] else []) ∧ fs2.length ≤ 101 ∧ G6 l = some (.lst (fs2.map V.str)) := ⟨fl, by rw [if_neg (by unfold noHead; rw [eb]; simp), List.append_nil], by omega, el6⟩
          rw [← hFl] at hfs2
          have g' := g6'
          generalize G6 = G' at g' e' ⊢
          have et' := g'.t _ _ et
          have al' := al.imp fun _ _ h => PairAt.ext h g'.t
          refine ⟨_, rfl, by decide, fun t3 h3 => ?_⟩
          have w3 : Go T G' (upd G' t3 (.tup [])) := go_upd g'.2 h3
          have et3 := w3.t _ _ et'
          have al3 := al'.imp fun _ _ h => PairAt.ext h w3.t
          have e3 : upd G' t3 (.tup []) t3 = some (.tup []) := upd_same
          have el3 := w3.at e'
          have g3 := g'.trans (Go.any w3)
          generalize upd G' t3 (.tup []) = G3 at w3 et3 al3 e3 el3 g3 ⊢
          refine ⟨_, _, .tup (SqT.of et3) (dp_all2 (g := pairD) (fun x y h => by obtain ⟨t, rfl, et⟩ := h; exact .tup (SqT.of et) (.cons (.str _) (.cons (.str _) .nil))) _ _ al3), .tup (SqT.of e3) .nil, pl_shaped (pl_chg fA fB) (by decide), by decide, _, rfl, ?_⟩
          have ev : PyData.eqv (.tuple ((chg A B).map pairD)) (.tuple []) = decide (chg A B = []) := by
            rw [Bool.eq_iff_iff, decide_eq_true_iff, pl_eqv 2 _ _ (pl_chg fA fB) rfl, PyData.tuple.injEq, List.map_eq_nil_iff]
          rw [ev]
          by_cases hn : chg A B = []
          · refine (if_pos (decide_eq_true hn)).mpr ⟨_, rfl, .inl ⟨rfl, _, SqL.of el3⟩, l, _, _, rfl, rfl, el3, by rw [List.length_map, sizeLine_eq]; omega, ?_⟩
            obtain ⟨a1, a2⟩ := ap ("empty" : Str) g3 el3
            refine ⟨l, _, rfl, .inl (SqL.of a2), fun t2 G2 n2 => k1 _ t2 (GoE.news h1 (a1.trans (n2.go a1.2)) fun b hb => by rw [List.mem_singleton.mp hb]; exact hlF) ?_⟩
            have e := n2.1
            rw [e, hfs2]
            unfold faults
            rw [if_pos hn]
          · refine iteF' (by rw [decide_eq_false hn]; decide) ?_
            refine ⟨l, _, rfl, .inl (SqL.of el3), fun t2 G2 n2 => k1 _ t2 (GoE.news h1 (g3.trans (n2.go g3.2)) fun b hb => by rw [List.mem_singleton.mp hb]; exact hlF) ?_⟩
            have e := n2.1
            rw [e, hfs2]
            unfold faults
            rw [if_neg hn, List.append_nil]
        · have eb : (hs.any fun h => Txt.startswith wd h) = false := by simpa using eb
          rw [eb]
          refine (if_pos rfl).mpr ⟨_, rfl, .inl ⟨rfl, _, SqL.of el6⟩, l, _, _, rfl, rfl, el6, by rw [List.length_map, sizeLine_eq]; omega, ?_⟩
          obtain ⟨a1, a2⟩ := ap ("words" : Str) g6' el6
          obtain ⟨fs2, hfs2, hfl2, e'⟩ : ∃ fs2 : List Str, fs2 = fl ++ (if noHead hs wd = true then [("words" : Str)] else []) ∧ fs2.length ≤ 101 ∧ upd G6 l (.lst (fl.map V.str ++ [.str ("words" : Str)])) l = some (.lst (fs2.map V.str)) := ⟨fl ++ [("words" : Str)], by rw [if_pos (by unfold noHead; rw [eb, decide_eq_false hh0]; rfl)], by rw [List.length_append, List.length_singleton]; omega, a2⟩
          rw [← hFl] at hfs2
          have g' := a1
          clear a2
          generalize upd G6 l (.lst (fl.map V.str ++ [.str ("words" : Str)])) = G' at g' e' ⊢
          have et' := g'.t _ _ et
          have al' := al.imp fun _ _ h => PairAt.ext h g'.t
          refine ⟨_, rfl, by decide, fun t3 h3 => ?_⟩
          have w3 : Go T G' (upd G' t3 (.tup [])) := go_upd g'.2 h3
          have et3 := w3.t _ _ et'
          have al3 := al'.imp fun _ _ h => PairAt.ext h w3.t
          have e3 : upd G' t3 (.tup []) t3 = some (.tup []) := upd_same
          have el3 := w3.at e'
          have g3 := g'.trans (Go.any w3)
          generalize upd G' t3 (.tup []) = G3 at w3 et3 al3 e3 el3 g3 ⊢
          refine ⟨_, _, .tup (SqT.of et3) (dp_all2 (g := pairD) (fun x y h => by obtain ⟨t, rfl, et⟩ := h; exact .tup (SqT.of et) (.cons (.str _) (.cons (.str _) .nil))) _ _ al3), .tup (SqT.of e3) .nil, pl_shaped (pl_chg fA fB) (by decide), by decide, _, rfl, ?_⟩
          have ev : PyData.eqv (.tuple ((chg A B).map pairD)) (.tuple []) = decide (chg A B = []) := by
            rw [Bool.eq_iff_iff, decide_eq_true_iff, pl_eqv 2 _ _ (pl_chg fA fB) rfl, PyData.tuple.injEq, List.map_eq_nil_iff]
          rw [ev]
          by_cases hn : chg A B = []
          · refine (if_pos (decide_eq_true hn)).mpr ⟨_, rfl, .inl ⟨rfl, _, SqL.of el3⟩, l, _, _, rfl, rfl, el3, by rw [List.length_map, sizeLine_eq]; omega, ?_⟩
            obtain ⟨a1, a2⟩ := ap ("empty" : Str) g3 el3
            refine ⟨l, _, rfl, .inl (SqL.of a2), fun t2 G2 n2 => k1 _ t2 (GoE.news h1 (a1.trans (n2.go a1.2)) fun b hb => by rw [List.mem_singleton.mp hb]; exact hlF) ?_⟩
            have e := n2.1
            rw [e, hfs2]
            unfold faults
            rw [if_pos hn]
          · refine iteF' (by rw [decide_eq_false hn]; decide) ?_
            refine ⟨l, _, rfl, .inl (SqL.of el3), fun t2 G2 n2 => k1 _ t2 (GoE.news h1 (g3.trans (n2.go g3.2)) fun b hb => by rw [List.mem_singleton.mp hb]; exact hlF) ?_⟩
            have e := n2.1
            rw [e, hfs2]
            unfold faults
            rw [if_neg hn, List.append_nil]
end
end R
end Text_R16
section Text_R17
set_option Elab.async false
set_option linter.all false
set_option maxRecDepth 100000
set_option maxHeartbeats 4000000
namespace R
open PySem PySem.Spec PyProof.Rows L2 Gx GxR
open PySem.W (alike dataLt)
section
variable {X : Cx} {tg : Expr}
theorem pi_tupK (K : PySem.W.Frag) (hK : X.K = K) {l : Expr} {tl : TE} (hl : PE X l tl) : PI X tg l (iTup K tl) := by
  rw [← hK]
  exact pi_tup hl
theorem pi_listK (K : PySem.W.Frag) (hK : X.K = K) {l : Expr} {tl : TE} (hl : PE X l tl) : PI X tg l (iList K tl) := by
  rw [← hK]
  exact pi_list hl
theorem call_len_seqK (K : PySem.W.Frag) (hK : X.K = K) : CallR X (.builtin "len") (fun xs H Q => ∃ p ys, xs = [.ref p] ∧ (SqL K H p ys ∨ SqT K H p ys) ∧ Q (.int ys.length) H) := by
  rw [← hK]
  exact call_len_seq
theorem op_catAK (K : PySem.W.Frag) (hK : X.K = K) : OpR X (binaryOp .Add) (rCatA K) := by
  rw [← hK]
  exact op_catA
end
/-- the table of code objects of fewest_who grows -/
theorem TOk.wx {T : Tb} {S : List Addr} {H H' : Hp} (t : TOk T H) (h : TabN H' T.w [T.p, T.m]) (k : ∀ b o, H b = some o → b ≠ T.w → H' b = some o) : GoE T S H H' := by
  have one : ∀ a, a ≠ T.w → TabG H a → TabG H' a := fun a n ⟨ps, e, q⟩ => ⟨ps, k _ _ e n, q⟩
  have nw : ∀ b o, H b = some o → (∀ ps, o ≠ .tbl ps) → b ≠ T.w := fun b o e n => TabG.not t.w.tab e n
  have oneS : ∀ a q, a ≠ T.w → LamX.TabS H a q → LamX.TabS H' a q := fun a q n ⟨ps, e, h1, h2⟩ => ⟨ps, k _ _ e n, h1, fun pos cv hc => by
    obtain ⟨c, e1, e2⟩ := h2 pos cv hc
    exact ⟨c, e1, k _ _ e2 (nw _ _ e2 LamX.codeO_ne)⟩⟩
  have z : ∀ a, a ∈ [T.f, T.o, T.l, T.a, T.p, T.m] → a ≠ T.w := fun a m e => t.nw (e ▸ m)
  exact ⟨fun b o e n _ => k b o e (nw b o e n), one _ (z _ (by simp)) t.f, one _ (z _ (by simp)) t.o, one _ (z _ (by simp)) t.l, one _ (z _ (by simp)) t.a, h, oneS _ _ (z _ (by simp)) t.p, oneS _ _ (z _ (by simp)) t.m, t.nw, t.np, t.nm⟩
/-- another table grows -/
theorem TOk.gx {T : Tb} {S : List Addr} {H H' : Hp} {P : Addr} (t : TOk T H) (nw : P ≠ T.w) (nl : P ∉ [T.p, T.m]) (hP : TabG H P) (tb : Tabbed P H H') : GoE T S H H' :=
  tabbed_go t nw (fun e => nl (by simp [e])) (fun e => nl (by simp [e])) hP tb
/-! who must agree, in plain words -/
def linesOf (nd : Owns) (who : Str) : List (List Str) := (nd.filter fun r => !decide (who ∈ r.2)).map (·.2)
def setsOf (ns : List Str) : List (List Str) := ns.foldl (fun f n => f ++ f.map (· ++ [n])) [[]]
def hit (ls : List (List Str)) (row : List Str) : Bool := ls.all fun o => row.any fun n => decide (n ∈ o)
def rowD (r : List Str) : PyData := .tuple (r.map .str)
def ltR (a b : List Str) : Bool := dataLt (rowD a) (rowD b)
/-- p is the least of the fewest in c -/
def IsFew (c : List (List Str)) (p : List Str) : Prop := p ∈ c ∧ (∀ q ∈ c, p.length ≤ q.length) ∧ ∀ q ∈ c, q.length = p.length → ltR q p = false
def spFew (C : Addr) (T : Tb) (CR : Addr) : Sp := fun vs H Q E => ∃ r d a b A B ow gs ms hs bs who, vs = [.ref r, .ref a, .ref b, .str who] ∧ RAt C H r d ow gs ms hs bs ∧ H a = some (.dK (fk A)) ∧ H b = some (.dK (fk B)) ∧ filesOk A ∧ filesOk B ∧ small ow ∧ namesOk ow ∧ (linesOf (need ow A B) who).flatten.length ≤ 60 ∧ TOk T H ∧
  (8 < (so (linesOf (need ow A B) who).flatten).length → ∀ H', Go T H H' → E (.ref CR) none H') ∧
  ((so (linesOf (need ow A B) who).flatten).length ≤ 8 → ∀ H' l p, Go T H H' → H' l = some (.tup (p.map V.str)) → IsFew ((setsOf (so (linesOf (need ow A B) who).flatten)).filter (hit (linesOf (need ow A B) who))) p → Q (.ref l) H')
def scRd : Scope := { kind := .function, names := [(".0", .local), ("row", .cell), ("all", .globalImplicit), ("rows", .free)], isGenerator := false, isCoroutine := false }
def scAl : Scope := { kind := .function, names := [(".0", .local), ("owners", .cell), ("row", .free), ("any", .globalImplicit)], isGenerator := true, isCoroutine := false }
abbrev NX : List Str := ["self", "one", "other", "who", "path", "names", "rows", "row", "name", "sets", "ready", "few", "owners"]

theorem linesOf_snoc {nd : Owns} {who : Str} {i : Nat} {q : Str × List Str} (h : nd[i]? = some q) : linesOf (nd.take (i + 1)) who = linesOf (nd.take i) who ++ (if who ∈ q.2 then [] else [q.2]) := by
  unfold linesOf
  rw [take_snoc h, List.filter_append, List.map_append]
  congr 1
  by_cases z : who ∈ q.2
  · rw [if_pos z]; simp [z]
  · rw [if_neg z]; simp [z]
theorem linesOf_len (nd : Owns) (who : Str) : (linesOf nd who).length ≤ nd.length := by
  unfold linesOf
  rw [List.length_map]
  exact List.length_filter_le _ _
theorem lines_mem {nd : Owns} {who : Str} {o : List Str} (h : o ∈ linesOf nd who) : ∃ q ∈ nd, q.2 = o ∧ who ∉ o := by
  obtain ⟨q, hq, e⟩ := List.mem_map.mp h
  obtain ⟨h1, h2⟩ := List.mem_filter.mp hq
  refine ⟨q, h1, e, ?_⟩
  rw [← e]
  simpa using h2
theorem sets_go (l : List Str) : ∀ f : List (List Str), (l.foldl (fun f n => f ++ f.map (· ++ [n])) f).length = f.length * 2 ^ l.length := by
  induction l with
  | nil => intro f; simp
  | cons n l ih =>
    intro f
    rw [List.foldl_cons, ih, List.length_append, List.length_map, List.length_cons, Nat.pow_succ]
    rw [← Nat.two_mul, Nat.mul_comm 2 f.length, Nat.mul_assoc, Nat.mul_comm 2]
theorem sets_len (l : List Str) : (setsOf l).length = 2 ^ l.length := by
  unfold setsOf
  rw [sets_go]
  simp
theorem sets_small {l : List Str} (h : l.length ≤ 8) : (setsOf l).length ≤ 256 := by
  rw [sets_len]
  exact Nat.pow_le_pow_right (by decide) h
theorem sets_snoc {l : List Str} {i : Nat} {n : Str} (h : l[i]? = some n) : setsOf (l.take (i + 1)) = setsOf (l.take i) ++ (setsOf (l.take i)).map (· ++ [n]) := by
  unfold setsOf
  rw [take_snoc h, List.foldl_append]
  rfl
theorem sets_full (l : List Str) : l ∈ setsOf l := by
  have : ∀ (l : List Str) (f : List (List Str)) (r : List Str), r ∈ f → r ++ l ∈ l.foldl (fun f n => f ++ f.map (· ++ [n])) f := by
    intro l
    induction l with
    | nil => intro f r h; rw [List.append_nil]; exact h
    | cons n l ih =>
      intro f r h
      rw [List.foldl_cons]
      have := ih (f ++ f.map (· ++ [n])) (r ++ [n]) (List.mem_append_right _ (List.mem_map.mpr ⟨r, h, rfl⟩))
      rw [List.append_assoc] at this
      exact this
  exact this l [[]] [] List.mem_cons_self
theorem flat_mem {ls : List (List Str)} {n : Str} : n ∈ so ls.flatten ↔ ∃ o ∈ ls, n ∈ o := by
  rw [mem_so, List.mem_flatten]
theorem hit_full {ls : List (List Str)} (h : ∀ o ∈ ls, o ≠ []) : hit ls (so ls.flatten) = true := by
  unfold hit
  rw [List.all_eq_true]
  intro o ho
  rw [List.any_eq_true]
  cases e : o with
  | nil => exact absurd e (h o ho)
  | cons n r =>
    refine ⟨n, flat_mem.mpr ⟨o, ho, ?_⟩, by simp⟩
    rw [e]; exact List.mem_cons_self
theorem ready_ne {ls : List (List Str)} (h : ∀ o ∈ ls, o ≠ []) : (setsOf (so ls.flatten)).filter (hit ls) ≠ [] := by
  intro e
  have : so ls.flatten ∈ (setsOf (so ls.flatten)).filter (hit ls) := List.mem_filter.mpr ⟨sets_full _, hit_full h⟩
  rw [e] at this
  cases this
theorem need_ne {ow : Owns} {A B : Files} {q : Str × List Str} (h : q ∈ need ow A B) : q.2 ≠ [] ∧ ∃ p, q.2 = own ow p := by
  obtain ⟨p, hp, e⟩ := List.mem_filterMap.mp h
  unfold needOf at e
  split at e
  · cases e
  · rename_i z
    cases e
    exact ⟨z, p.2, rfl⟩
theorem own_len {ow : Owns} (h : small ow) (p : Str) : (own ow p).length ≤ 30 := by
  have : ∀ (l : Owns) (a : List Str), (∀ r ∈ l, r.2.length ≤ 30) → a.length ≤ 30 → (l.foldl (fun a r => if fitS r.1 p = true then r.2 else a) a).length ≤ 30 := by
    intro l
    induction l with
    | nil => exact fun a _ h => h
    | cons r l ih =>
      intro a hl ha
      refine ih _ (fun r hr => hl r (List.mem_cons_of_mem _ hr)) ?_
      show (if fitS r.1 p = true then r.2 else a).length ≤ 30
      split
      · exact hl r List.mem_cons_self
      · exact ha
  have h2 := this ow [] (fun r hr => (h.2 r hr).2) (Nat.zero_le _)
  have h3 := so_len (fnd ow p)
  unfold own
  have h2 : (fnd ow p).length ≤ 30 := h2
  omega
theorem flat_len {ls : List (List Str)} (k : Nat) (h : ∀ o ∈ ls, o.length ≤ k) : ls.flatten.length ≤ k * ls.length := by
  induction ls with
  | nil => exact Nat.zero_le _
  | cons o r ih =>
    rw [List.flatten_cons, List.length_append, List.length_cons, Nat.mul_succ]
    have := ih fun o ho => h o (List.mem_cons_of_mem _ ho)
    have := h o List.mem_cons_self
    omega
theorem ltR_trans {a b c : List Str} (h : ltR a b = true) (k : ltR b c = true) : ltR a c = true := PyProof.Rows.lex_trans _ _ _ h k
theorem ltR_irrefl (a : List Str) : ltR a a = false := PyProof.Rows.lex_irrefl _
theorem alike_rows : ∀ a b : List Str, PySem.W.alikeAll (a.map .str) (b.map .str) = true
  | [], _ => rfl
  | _ :: _, [] => rfl
  | x :: a, y :: b => by
    show (alike (.str x) (.str y) && PySem.W.alikeAll (a.map .str) (b.map .str)) = true
    rw [alike_rows a b]
    rfl
theorem alike_rowD (a b : List Str) : alike (rowD a) (rowD b) = true := alike_rows a b
theorem depth_strs : ∀ a : List Str, PyData.depthAll (a.map .str) ≤ 0
  | [] => Nat.le_refl _
  | x :: a => by
    show max (PyData.depth (.str x)) (PyData.depthAll (a.map .str)) ≤ 0
    have := depth_strs a
    show max 0 _ ≤ 0
    omega
theorem depth_rowD (a : List Str) : (rowD a).depth ≤ 20 := by
  have := depth_strs a
  show PyData.depthAll (a.map .str) + 1 ≤ 20
  omega
/-- {x: v for row in .. for x in row} of rows of texts -/
theorem dc2_uniq {K : PySem.W.Frag} {a : Addr} {rs : List V} {ls : List (List Str)} {i j : Nat} {v : V} {tv : TE} {σ : L2.St} {H1 : Hp} {D : Addr} {Qd : Hp → Prop} (hD : H1 D = none) (hij : i ≠ j) (hi : i < σ.length) (hj : j < σ.length) (hS : SqL K H1 a rs) (hS2 : ∀ u, SqL K (upd H1 D u) a rs) (al : All2 (NamesAt H1) rs ls) (hl : ls.flatten.length ≤ 1000)
    (htv : ∀ σ H (Q : VK), Q v H → tv σ H Q) (h : Qd (upd H1 D (.dK (keyTab v (uniq ls.flatten))))) :
    ∃ W : Nat → Nat → Hp → Prop, (∃ m, W 0 m (upd H1 D (.dK []))) ∧ ∀ i' m H, W i' m H →
      ((Itl K a).stop i' H ∧ Qd H) ∨ ((Itl K a).go i' H ∧ ∃ Nx : Hp → Prop, (∀ H', Nx H' → ∃ m', m' < m ∧ W (i' + 1) m' H') ∧ ∀ x H', (Itl K a).yld i' H x H' → gName i x (wipe σ [i, j]) H' fun σ2 H2 => wipe σ2 [i, j] = wipe σ [i, j] ∧ tYes σ2 H2 fun b H3 =>
        if b = true then iTup K (tVar i) σ2 H3 fun J1 H4 => ∃ W1 : Nat → Nat → Hp → Prop, (∃ m, W1 0 m H4) ∧ ∀ j' k H, W1 j' k H →
          (J1.stop j' H ∧ Nx H) ∨ (J1.go j' H ∧ ∃ Nx1 : Hp → Prop, (∀ H', Nx1 H' → ∃ k', k' < k ∧ W1 (j' + 1) k' H') ∧ ∀ x H', J1.yld j' H x H' → gName j x (wipe σ2 [j]) H' fun σ3 H5 => wipe σ3 [j] = wipe σ2 [j] ∧ tYes σ3 H5 fun b H6 =>
            if b = true then tVar j σ3 H6 fun y H7 => tv σ3 H7 fun z H8 => ∃ kvs k, y = kV k ∧ H8 D = some (.dK kvs) ∧ kvs.length < sizeLine ∧ Nx1 (upd H8 D (.dK (putK kvs k z))) else Nx1 H6)
        else Nx H3) := by
  have hfl : ∀ n, (ls.take n).flatten.length ≤ ls.flatten.length := fun n => by
    have : ls.flatten = (ls.take n).flatten ++ (ls.drop n).flatten := by rw [← List.flatten_append, List.take_append_drop]
    rw [this, List.length_append]
    omega
  refine ⟨fun n m G => n + m = rs.length ∧ G = upd H1 D (.dK (keyTab v (uniq (ls.take n).flatten))), ⟨rs.length, Nat.zero_add _, by simp [uniq, keyTab]⟩, fun n m G w => ?_⟩
  obtain ⟨e, rfl⟩ := w
  rcases Nat.lt_or_ge n rs.length with hn | hn
  · refine .inr ⟨⟨rs, rs[n], hS2 _, List.getElem?_eq_getElem hn⟩, fun G => G = upd H1 D (.dK (keyTab v (uniq (ls.take (n + 1)).flatten))), fun G' e' => ⟨m - 1, by omega, by omega, e'⟩, fun x G' y => ?_⟩
    obtain ⟨rfl, y⟩ := y
    have hx := y _ (hS2 _)
    clear y
    obtain ⟨o, ho, t, rfl, et⟩ := al.at hx
    have htD : t ≠ D := ne_of_none et hD
    have et2 : ∀ u, upd H1 D u t = some (.tup (o.map V.str)) := fun u => by rw [upd_ne htD]; exact et
    have ef : (ls.take (n + 1)).flatten = (ls.take n).flatten ++ o := by rw [take_snoc ho, List.flatten_append]; simp
    have hl2 := hfl (n + 1)
    rw [ef, List.length_append] at hl2
    have hl1 : (wipe σ [i, j]).length = σ.length := wipe_length _ _
    refine ⟨?_, .ref t, ?_, t, rfl, ⟨_, SqT.of (et2 _)⟩, fun k m G => k + m = o.length ∧ G = upd H1 D (.dK (keyTab v (uniq ((ls.take n).flatten ++ o.take k)))), ⟨o.length, Nat.zero_add _, by rw [List.take_zero, List.append_nil]⟩, fun k m2 G w => ?_⟩
    · show ((((σ.set j none).set i none).set i (some (.ref t))).set j none).set i none = (σ.set j none).set i none
      have e1 : ∀ s0 : L2.St, ((s0.set i none).set i (some (V.ref t))) = s0.set i (some (V.ref t)) := fun s0 => List.set_set ..
      have e2 : ∀ s0 : L2.St, (((s0.set j none).set i (some (V.ref t))).set j none).set i none = (s0.set j none).set i none := fun s0 => by
        rw [List.set_comm (some (V.ref t)) none hij, List.set_set, List.set_set]
      rw [e1, e2]
    · rw [List.getElem?_set_self]
      rw [hl1]
      exact hi
    · obtain ⟨e2, rfl⟩ := w
      rcases Nat.lt_or_ge k o.length with hk | hk
      · refine .inr ⟨⟨o.map V.str, .str o[k], SqT.of (et2 _), by rw [List.getElem?_map, List.getElem?_eq_getElem hk]; rfl⟩, fun G => G = upd H1 D (.dK (keyTab v (uniq ((ls.take n).flatten ++ o.take (k + 1))))), fun G' e' => ⟨m2 - 1, by omega, by omega, e'⟩, fun x G' y => ?_⟩
        obtain ⟨rfl, y⟩ := y
        have hx := y _ (SqT.of (et2 _))
        clear y
        obtain ⟨z, hz, rfl⟩ := str_at hx
        refine ⟨wipe_one, .str z, ?_, htv _ _ _ ⟨keyTab v (uniq ((ls.take n).flatten ++ o.take k)), Sum.inr z, (rfl : V.str z = kV (Sum.inr z)), upd_same, ?_, ?_⟩⟩
        · rw [List.getElem?_set_self]
          rw [wipe_length, List.length_set, hl1]
          exact hj
        · rw [keyTab_len, sizeLine_eq]
          have h1 := uniq_len ((ls.take n).flatten ++ o.take k)
          rw [List.length_append] at h1
          have h2 : (o.take k).length ≤ o.length := by rw [List.length_take]; omega
          omega
        · show _ = _
          rw [upd_upd, put_key, take_snoc hz, ← List.append_assoc, uniq_snoc]
      · have e3 : k = o.length := by omega
        subst e3
        refine .inl ⟨⟨o.map V.str, SqT.of (et2 _), by rw [List.length_map]; exact Nat.le_refl _⟩, ?_⟩
        show _ = _
        rw [List.take_length, ef]
  · have e2 : n = rs.length := by omega
    subst e2
    refine .inl ⟨⟨rs, hS2 _, Nat.le_refl _⟩, ?_⟩
    rw [List.take_of_length_le (Nat.le_of_eq al.1.symm)]
    exact h
theorem sets_row {l : List Str} {r : List Str} (h : r ∈ setsOf l) : r.length ≤ l.length := by
  have : ∀ (l : List Str) (f : List (List Str)) (k : Nat), (∀ r ∈ f, r.length ≤ k) → ∀ r ∈ l.foldl (fun f n => f ++ f.map (· ++ [n])) f, r.length ≤ k + l.length := by
    intro l
    induction l with
    | nil => exact fun f k h r hr => h r hr
    | cons n l ih =>
      intro f k h r hr
      rw [List.foldl_cons] at hr
      have := ih _ (k + 1) (fun r hr => by
        rcases List.mem_append.mp hr with m | m
        · exact Nat.le_succ_of_le (h r m)
        · obtain ⟨q, hq, rfl⟩ := List.mem_map.mp m
          rw [List.length_append]
          exact Nat.succ_le_succ (h q hq)) r hr
      rw [List.length_cons]
      omega
  have := this l [[]] 0 (fun r hr => by rw [List.mem_singleton.mp hr]; exact Nat.le_refl _) r h
  omega
theorem All2.append {α β : Type} {F : α → β → Prop} {xs zs : List α} {ys ws : List β} (a : All2 F xs ys) (b : All2 F zs ws) : All2 F (xs ++ zs) (ys ++ ws) := by
  refine ⟨by rw [List.length_append, List.length_append, a.1, b.1], fun i x y h1 h2 => ?_⟩
  rcases Nat.lt_or_ge i xs.length with hi | hi
  · rw [List.getElem?_append_left hi] at h1
    rw [List.getElem?_append_left (by rw [← a.1]; exact hi)] at h2
    exact a.2 i x y h1 h2
  · rw [List.getElem?_append_right hi] at h1
    rw [List.getElem?_append_right (by rw [← a.1]; exact hi), ← a.1] at h2
    exact b.2 _ x y h1 h2
end R
end Text_R17
section Text_R18
set_option Elab.async false
set_option linter.all false
set_option maxRecDepth 100000
set_option maxHeartbeats 4000000
namespace R
open PySem PySem.Spec PyProof.Rows L2 Gx GxR
open PySem.W (alike dataLt)
section
variable {P : Program} {w : World} {K : PySem.W.Frag} {mg : Str → Option Value} {base : Heap} {T : Tb} {C CR CS : Addr}
theorem scX : FnScope NX ["self", "one", "other", "who"] (defScope sFewest) := ⟨rfl, rfl, rfl, by decide +kernel, rfl, by decide +kernel, by decide +kernel⟩
theorem ok_few {f c fN : Addr} {fd fdN : FuncData} (F : FunC K "fewest_who" "Rules.fewest_who" sFewest f c fd) (L : Cl K mg C) (X : Er K mg CR CS) (Y : Tx K mg) (bw : TabB base mg c T.w) (GN : FnOk P w K mg base CX0 20 fN fdN ["self", "one", "other"] (spNeed C T)) (mN : Meth K C "needed" fN)
    (bN : Binds K fdN ["self", "one", "other"] []) : FnOk P w K mg base (L2.CX P w) 21 f fd ["self", "one", "other", "who"] (spFew C T CR) := by
  refine F.okX scX (fun vs H Q E h => ?_) (fun A0 outer s H vs Q E hr h => ?_)
  · obtain ⟨r, d, a, b, A, B, ow, gs, ms, hs, bs, who, rfl, _⟩ := h
    rfl
  · obtain ⟨r, d, a, b, A, B, ow, gs, ms, hs, bs, who, rfl, ra, ha, hb, fA, fB, hsm, hno, h60, tk, k1, k2⟩ := h
    refine ⟨_, pss_cons (ps_set (i := 6) scX.nd rfl (Or.inr rfl) (pe_lc (own := [("path", 4), ("names", 5)]) rfl scX.nd (pi_tup (pe_meth (pv 0) L.cl mN GN hr bN .nil pass0 (pa_cons (pv 1) (pa_cons (pv 2) pa_nil)))) (blkOk_by (N := NX) (sc := defScope sFewest) (by decide +kernel))
          (fun _ _ _ _ _ => pg_tupK K 2 rfl rfl (pgs_cons (pg_name (i := 4) scX.nd rfl (Or.inl rfl) (Or.inr rfl)) (pgs_cons (pg_name (i := 5) scX.nd rfl (Or.inl rfl) (Or.inr rfl)) pgs_nil)))
          (fun _ _ _ _ _ => pts_one (pt_cmpR (op_notIn_seqK K rfl) (pv 3) (pv 5) (by rfl))) (fun _ _ _ _ _ => pv 5)))
      (pss_cons (ps_set (i := 5) scX.nd rfl (Or.inl rfl) (pe_callB (call_sortedD rfl) (by rfl) Y.sorted (by decide +kernel) (pa_cons (pe_dc2 (own := [("row", 7), ("name", 8)]) (vs1 := [8]) (g := gName 7) (g1 := gName 8) rfl scX.nd (pi_list (pv 6)) (blkOk_by (N := NX) (sc := defScope sFewest) (by decide +kernel)) (by decide)
          (fun _ _ _ _ _ => pg_name (i := 7) scX.nd rfl (Or.inl rfl) (Or.inr rfl)) (fun _ _ _ _ _ => pts_nil) (fun _ _ _ _ _ => pi_tupK K rfl (pv 7)) (fun _ _ _ _ _ => pg_name (i := 8) scX.nd rfl (Or.inl rfl) (Or.inr rfl)) (fun _ _ _ _ _ => pts_nil) (fun _ _ _ _ _ => pv 8) (fun _ _ _ _ _ => pe_bl)) pa_nil)))
      (pss_cons (ps_if (pt_cmpR op_gt (pe_callB call_len_seq (by rfl) Y.len PySem.boot_len (pa_cons (pv 5) pa_nil)) pe_int (nomark _))
        (pss_one (ps_raise rfl (takes_of rfl rfl rfl rfl) (pmk_own PySem.F.excBase_ValueError X.xR X.gR X.kR (raises_own X.bR X.tR) rfl))) pss_nil)
      (pss_cons (ps_set (i := 9) scX.nd rfl (Or.inl rfl) (pe_lst (pa_cons (pe_tup pa_nil) pa_nil)))
      (pss_cons (ps_for (passes_of rfl) rfl (pi_list (pv 5)) (pg_name (i := 8) scX.nd rfl (Or.inr rfl))
        (pss_one (ps_aug (i := 9) scX.nd rfl (Or.inl rfl) (pe_lc (own := [("row", 7)]) (g := gName 7) (tt := tYes) rfl scX.nd (pi_list (pv 9)) (blkOk_by (N := NX) (sc := defScope sFewest) (by decide +kernel))
          (fun _ _ _ _ _ => pg_name (i := 7) scX.nd rfl (Or.inl rfl) (Or.inr rfl)) (fun _ _ _ _ _ => pts_nil) (fun _ _ _ _ _ => pe_op (op_catAK K rfl) (pv 7) (pe_tup (pa_cons (pv 8) pa_nil)))) iop_ext)))
      (pss_cons (ps_setLc (i := 10) (own := [("row", 7)]) (g := gName 7) rfl scX.nd rfl rfl (by rfl) (pi_list (pv 9)) (blkOk_by (N := NX) (sc := defScope sFewest) (by decide +kernel))
          (fun _ _ _ _ _ => pg_name (i := 7) scX.nd rfl (Or.inr rfl) (Or.inl rfl))
          (fun _ _ _ _ _ => pts_one (pt_val (pe_allC (own := [("owners", 12)]) (k := 19) hr rfl Y.all ⟨_, bw.bm⟩ (mkC_tabN (L := [T.p, T.m]) bw rfl) scX.nd (gOkC_by (N := NX) (sc := relS scRd (defScope sFewest)) (by decide +kernel)) (pi_listK K rfl (pv 6))
            ⟨fun _ _ _ _ _ _ _ _ => pg_name (i := 12) scX.nd rfl (Or.inr rfl) (Or.inl rfl), fun _ _ _ _ _ _ _ _ => pts_nil, fun _ _ _ _ _ _ _ hr' => pe_anyC (own := [("name", 8)]) (k := 18) hr' rfl Y.any ⟨_, bw.bm⟩ (mkC_dyn rfl) scX.nd (gOkC_by (N := NX) (sc := scAl) (by decide +kernel)) (pi_tupK K rfl (pv 7))
              ⟨fun _ _ _ _ _ _ _ _ => pg_name (i := 8) scX.nd rfl (Or.inl rfl) (Or.inr rfl), fun _ _ _ _ _ _ _ _ => pts_nil, fun _ _ _ _ _ _ _ _ => pe_cmpR (op_in_seqK K rfl) (pv 8) (pv 12) (by rfl)⟩⟩)))
          (fun _ _ _ _ _ => pv 7))
      (pss_cons (ps_set (i := 11) scX.nd rfl (Or.inr rfl) (pe_minC (own := [("row", 7)]) (k := 19) hr rfl Y.min ⟨_, bw.bm⟩ (mkC_tabN (L := [T.p, T.m]) bw rfl) scX.nd (gOkC_by (N := NX) (sc := defScope sFewest) (by decide +kernel)) (pi_list (pv 10))
          ⟨fun _ _ _ _ _ _ _ _ => pg_name (i := 7) scX.nd rfl (Or.inl rfl) (Or.inr rfl), fun _ _ _ _ _ _ _ _ => pts_nil, fun _ _ _ _ _ _ _ _ => pe_callB (call_len_seqK K rfl) (by rfl) Y.len PySem.boot_len (pa_cons (pv 7) pa_nil)⟩))
      (pss_one (ps_ret (pe_minC (own := [("row", 7)]) (k := 19) hr rfl Y.min ⟨_, bw.bm⟩ (mkC_tabN (L := [T.p, T.m]) bw rfl) scX.nd (gOkC_by (N := NX) (sc := defScope sFewest) (by decide +kernel)) (pi_list (pv 10))
          ⟨fun _ _ _ _ _ _ _ _ => pg_name (i := 7) scX.nd rfl (Or.inl rfl) (Or.inr rfl), fun _ _ _ _ _ _ _ _ => pts_one (pt_cmpR op_eq (pe_callB (call_len_seqK K rfl) (by rfl) Y.len PySem.boot_len (pa_cons (pv 7) pa_nil)) (pv 11) (nomark _)), fun _ _ _ _ _ _ _ _ => pv 7⟩))))))))), ?_⟩
    --READ
    obtain ⟨⟨dx, o, hh, bb, er, _, _, _⟩, ed⟩ := id ra
    refine ⟨_, rfl, r, dx, _, rfl, er, look_no (by decide +kernel), _, rfl, _, rfl, r, d, a, b, A, B, ow, gs, ms, hs, bs, rfl, ra, ha, hb, fA, fB, hsm, hno, tk, fun G0 t xs g0 et al => ?_⟩
    have hnl : (need ow A B).length ≤ 20 := by
      have h1 := chg_len A B
      have h3 : (need ow A B).length ≤ (chg A B).length := List.length_filterMap_le _ _
      have := fA.1
      have := fB.1
      omega
    have hll := linesOf_len (need ow A B) who
    have hol : ∀ o ∈ linesOf (need ow A B) who, o ≠ [] ∧ o.length ≤ 30 := fun o ho => by
      obtain ⟨q, hq, rfl, _⟩ := lines_mem ho
      obtain ⟨h1, p, h2⟩ := need_ne hq
      exact ⟨h1, by rw [h2]; exact own_len hsm p⟩
    have hfl := flat_len 30 fun o ho => (hol o ho).2
    refine ⟨t, rfl, ⟨xs, SqT.of et⟩, fun D hD => ?_⟩
    have g1 : Go T H (upd G0 D (.lst [])) := g0.trans (go_upd g0.2 hD)
    have x1 : ExtT G0 (upd G0 D (.lst [])) := (go_upd (S := []) (o := .lst []) g0.2 hD).t
    have hDf : Fresh H D := fresh_of g0 hD
    have eD1 : upd G0 D (.lst []) D = some (.lst []) := upd_same
    have et1 := x1 _ _ et
    have al1 := al.imp fun _ _ h => OwRow.ext h x1
    refine lc_tup (xs := xs) (fun i G => GoE T [D] (upd G0 D (.lst [])) G ∧ ∃ acc, G D = some (.lst acc) ∧ All2 (NamesAt G) acc (linesOf ((need ow A B).take i) who)) ⟨GoE.refl g1.2, [], eD1, All2.nil⟩ (fun i G _ h => SqT.of (h.1.t _ _ et1)) (fun i x G hx h => ?_) (fun G h => ?_)
    · obtain ⟨g, acc, eD, aa⟩ := h
      obtain ⟨q, hq, t1, u1, rfl, e1, e2⟩ := al1.at hx
      have e1 := g.t _ _ e1
      have e2 := g.t _ _ e2
      refine ⟨t1, _, rfl, SqT.of e1, rfl, _, _, rfl, _, _, rfl, rfl, rfl, _, rfl, _, rfl, u1, _, rfl, .inr (SqT.of e2), rfl, flat_strs _, _, rfl, ?_⟩
      rw [if_pos rfl, inV_str, linesOf_snoc hq]
      by_cases hw : who ∈ q.2
      · refine (if_neg (by rw [decide_eq_true hw]; decide)).mpr ⟨g, acc, eD, ?_⟩
        rw [if_pos hw, List.append_nil]
        exact aa
      · have hal : acc.length < sizeLine := by
          rw [aa.1, sizeLine_eq]
          have h1 := linesOf_len ((need ow A B).take i) who
          have h2 : ((need ow A B).take i).length ≤ (need ow A B).length := by rw [List.length_take]; exact Nat.min_le_right _ _
          omega
        have w2 : GoE T [D] G (upd G D (.lst (acc ++ [.ref u1]))) := go_set g.2 eD mu_lst (by simp)
        refine (if_pos (by rw [decide_eq_false hw]; rfl)).mpr ⟨_, rfl, acc, eD, hal, g.trans w2, _, upd_same, ?_⟩
        rw [if_neg hw]
        exact (aa.imp fun _ _ h => NamesAt.ext h w2.t).snoc ⟨u1, rfl, w2.t _ _ e2⟩
    obtain ⟨g, rs, eD, ar⟩ := h
    rw [List.take_of_length_le (Nat.le_of_eq al.1.symm)] at ar
    have g2 : Go T H G := GoE.news g1 g fun b hb => by rw [List.mem_singleton.mp hb]; exact hDf
    clear g x1 et1 al1 eD1 et al g0 g1
    generalize hLs : linesOf (need ow A B) who = ls at *
    refine ⟨_, rfl, D, rfl, ⟨_, SqL.of eD⟩, fun D2 hD2 => ?_⟩
    have hDD : D ≠ D2 := ne_of_none eD hD2
    refine dc2_uniq hD2 (by decide) (by show (7 : Nat) < 13; decide) (by show (8 : Nat) < 13; decide) (SqL.of eD) (fun u => SqL.of (by rw [upd_ne hDD]; exact eD)) ar (by omega) (fun _ _ _ q => q) ?_
    have g3 : Go T H (upd G D2 (.dK (keyTab (.bl true) (uniq ls.flatten)))) := g2.trans (go_upd g2.2 hD2)
    have hul := uniq_len ls.flatten
    refine ⟨D2, _, uniq ls.flatten, rfl, Rd.of upd_same, keyTab_keys _ _, by omega, fun ys S pm sr hS => ?_⟩
    have ey : ys = so ls.flatten := srt_eq pm sr
    subst ey
    have g4 : Go T H (upd (upd G D2 (.dK (keyTab (.bl true) (uniq ls.flatten)))) S (.lst ((so ls.flatten).map V.str))) := g3.trans (go_upd g3.2 hS)
    have w4 : Go T G (upd (upd G D2 (.dK (keyTab (.bl true) (uniq ls.flatten)))) S (.lst ((so ls.flatten).map V.str))) := (go_upd g2.2 hD2).trans (go_upd g3.2 hS)
    have eS : upd (upd G D2 (.dK (keyTab (.bl true) (uniq ls.flatten)))) S (.lst ((so ls.flatten).map V.str)) S = some (.lst ((so ls.flatten).map V.str)) := upd_same
    have eD4 := w4.at eD
    have ar4 := ar.imp fun _ _ h => NamesAt.ext h w4.t
    generalize upd (upd G D2 (.dK (keyTab (.bl true) (uniq ls.flatten)))) S (.lst ((so ls.flatten).map V.str)) = G4 at g4 w4 eS eD4 ar4 ⊢
    refine ⟨_, rfl, S, _, rfl, .inl (SqL.of eS), _, _, rfl, rfl, _, rfl, ?_⟩
    have eL : (((so ls.flatten).map V.str).length : Int) = ((so ls.flatten).length : Int) := by rw [List.length_map]
    rw [eL]
    refine ite2 (fun e => ?_) (fun e => ?_)
    · have e : (8 : Int) < ((so ls.flatten).length : Int) := of_decide_eq_true e
      exact k1 (by omega) G4 g4
    have hn8 : (so ls.flatten).length ≤ 8 := by
      have : ¬ (8 : Int) < ((so ls.flatten).length : Int) := fun z => e (decide_eq_true z)
      omega
    have k2 := k2 hn8
    clear k1 e w4 hul g3
    refine ⟨by decide, fun t0 ht0 => ⟨by show 1 ≤ sizeLine; decide, fun Ls hLs' => ?_⟩⟩
    have w5a : Go T G4 (upd G4 t0 (.tup [])) := go_upd g4.2 ht0
    have hLf : Fresh H Ls := fresh_of (g4.trans w5a) hLs'
    have w5 : Go T G4 (upd (upd G4 t0 (.tup [])) Ls (.lst [.ref t0])) := w5a.trans (go_upd w5a.2 hLs')
    have et0 : upd (upd G4 t0 (.tup [])) Ls (.lst [.ref t0]) t0 = some (.tup []) := by
      rw [upd_ne (show t0 ≠ Ls from fun z => by rw [← z, upd_same] at hLs'; cases hLs'), upd_same]
    have eL5 : upd (upd G4 t0 (.tup [])) Ls (.lst [.ref t0]) Ls = some (.lst [.ref t0]) := upd_same
    have nS : S ≠ Ls := ne_of_none (w5a.at eS) hLs'
    have nD : D ≠ Ls := ne_of_none (w5a.at eD4) hLs'
    have eS5 := w5.at eS
    have eD5 := w5.at eD4
    have ar5 := ar4.imp fun _ _ h => NamesAt.ext h w5.t
    have g5 := g4.trans w5
    generalize upd (upd G4 t0 (.tup [])) Ls (.lst [.ref t0]) = G5 at w5 et0 eL5 eS5 eD5 ar5 g5 ⊢
    refine ⟨_, rfl, S, rfl, ⟨_, SqL.of eS5⟩, for_list (xs := (so ls.flatten).map V.str) (fun i σ G => GoE T [Ls] G5 G ∧ (∃ v8, σ = [some (.ref r), some (.ref a), some (.ref b), some (.str who), none, some (.ref S), some (.ref D), none, v8, some (.ref Ls), none, none, none]) ∧ ∃ xs, G Ls = some (.lst xs) ∧ All2 (NamesAt G) xs (setsOf ((so ls.flatten).take i))) ?_ ?_ ?_ ?_⟩
    · exact ⟨GoE.refl g5.2, ⟨none, rfl⟩, _, eL5, All2.nil.snoc ⟨t0, rfl, et0⟩⟩
    · intro i σ G _ h
      exact h.1.seq (SqL.of eS5) (by simpa using nS)
    · intro i x σ G hix h
      obtain ⟨g, ⟨v8, rfl⟩, xs, eL, ax⟩ := h
      obtain ⟨n, hn, rfl⟩ := str_at hix
      have hxl : xs.length ≤ 256 := by
        rw [ax.1]
        refine sets_small ?_
        rw [List.length_take]
        omega
      refine ⟨_, rfl, _, rfl, Ls, rfl, ⟨_, SqL.of eL⟩, fun D7 hD7 => ?_⟩
      have nL7 : Ls ≠ D7 := ne_of_none eL hD7
      have w7 : Go T G (upd G D7 (.lst [])) := go_upd g.2 hD7
      have eL7 := w7.at eL
      have ax7 := ax.imp fun _ _ h => NamesAt.ext h w7.t
      refine lc_list (xs := xs) (fun j G' => GoE T [D7] (upd G D7 (.lst [])) G' ∧ ∃ acc, G' D7 = some (.lst acc) ∧ All2 (NamesAt G') acc (((setsOf ((so ls.flatten).take i)).take j).map (· ++ [n]))) ⟨GoE.refl w7.2, [], upd_same, All2.nil⟩ (fun j G' _ h => h.1.seq (SqL.of eL7) (by simpa using nL7)) (fun j x G' hx h => ?_) (fun G' h => ?_)
      · obtain ⟨g', acc, eD7, aa⟩ := h
        obtain ⟨row, hrow, t1, rfl, e1⟩ := ax7.at hx
        have e1 := g'.t _ _ e1
        have hrl : row.length ≤ 8 := by
          have h1 := sets_row (List.mem_of_getElem? hrow)
          rw [List.length_take] at h1
          omega
        refine ⟨rfl, _, rfl, _, rfl, by show 1 ≤ sizeLine; decide, fun v hv => ?_⟩
        have w8 : Go T G' (upd G' v (.tup [.str n])) := go_upd g'.2 hv
        have ev : upd G' v (.tup [.str n]) v = some (.tup [.str n]) := upd_same
        have e18 := w8.t _ _ e1
        have eD8 := w8.at eD7
        have aa8 := aa.imp fun _ _ h => NamesAt.ext h w8.t
        have g8 := g'.trans (Go.any w8)
        generalize upd G' v (.tup [.str n]) = G8 at w8 ev e18 eD8 aa8 g8 ⊢
        have fin : ∀ (p : Addr) (G9 : Hp), Go T G8 G9 → G9 p = some (.tup ((row ++ [n]).map V.str)) → ∃ acc, G9 D7 = some (.lst acc) ∧ acc.length < sizeLine ∧ (GoE T [D7] (upd G D7 (.lst [])) (upd G9 D7 (.lst (acc ++ [.ref p]))) ∧ ∃ acc2, upd G9 D7 (.lst (acc ++ [.ref p])) D7 = some (.lst acc2) ∧ All2 (NamesAt (upd G9 D7 (.lst (acc ++ [.ref p])))) acc2 (((setsOf ((so ls.flatten).take i)).take (j + 1)).map (· ++ [n]))) := fun p G9 w9 ep => by
          have eD9 := w9.at eD8
          have w10 : GoE T [D7] G9 (upd G9 D7 (.lst (acc ++ [.ref p]))) := go_set w9.2 eD9 mu_lst (by simp)
          refine ⟨acc, eD9, ?_, (g8.trans (Go.any w9)).trans w10, _, upd_same, ?_⟩
          · rw [aa.1, List.length_map, List.length_take, sizeLine_eq]
            have := ax.1
            omega
          · rw [take_snoc hrow, List.map_append]
            exact (aa8.imp fun _ _ h => (NamesAt.ext h w9.t).ext w10.t).snoc ⟨p, rfl, w10.t _ _ ep⟩
        refine ⟨t1, v, row.map V.str, [.str n], rfl, rfl, SqT.of e18, SqT.of ev, by rw [List.length_map, sizeLine_eq]; show row.length + 1 ≤ _; omega, fun z => ?_, fun _ z => (by cases z), fun _ _ p hp => ?_⟩
        · refine fin v G8 (GoE.refl g8.2) ?_
          have z : row = [] := List.map_eq_nil_iff.mp z
          rw [z]
          exact ev
        · refine fin p _ (go_upd g8.2 hp) ?_
          rw [upd_same, List.map_append]
          rfl
      · obtain ⟨g', acc, eD7, aa⟩ := h
        rw [List.take_of_length_le (Nat.le_of_eq ax.1.symm)] at aa
        have eLr := g'.at eL7 (by simpa using nL7)
        have gr : GoE T [Ls] G G' := ⟨fun c o e nt m => g'.1 c o (w7.1 c o e nt (.inl (by simp))) nt (m.elim (fun _ => .inl (by simpa using ne_of_none e hD7)) .inr), g'.2⟩
        have axr := ax7.imp fun _ _ h => NamesAt.ext h g'.t
        have w8 : GoE T [Ls] G' (upd G' Ls (.lst (xs ++ acc))) := go_set gr.2 eLr mu_lst (by simp)
        refine ⟨Ls, D7, xs, acc, rfl, rfl, eLr, eD7, ?_, (g.trans gr).trans w8, ⟨_, rfl⟩, _, upd_same, ?_⟩
        · rw [aa.1, List.length_map, ← ax.1, sizeLine_eq]
          omega
        · rw [sets_snoc hn]
          exact (axr.imp fun _ _ h => NamesAt.ext h w8.t).append (aa.imp fun _ _ h => NamesAt.ext h w8.t)
    intro σ G h
    obtain ⟨g, ⟨v8, rfl⟩, xs, eL, ax⟩ := h
    rw [List.length_map, List.take_length] at ax
    have eDG := g.at eD5 (by simpa using nD)
    have arG := ar5.imp fun _ _ h => NamesAt.ext h g.t
    have gG : Go T H G := GoE.news g5 g fun b hb => by rw [List.mem_singleton.mp hb]; exact hLf
    clear eD5 ar5 g5 eS5 et0 eL5
    have hxl : xs.length ≤ 256 := by
      rw [ax.1]
      exact sets_small hn8
    refine ⟨_, rfl, Ls, rfl, ⟨_, SqL.of eL⟩, fun D8 hD8 => ?_⟩
    have nL8 : Ls ≠ D8 := ne_of_none eL hD8
    have nD8 : D ≠ D8 := ne_of_none eDG hD8
    have hD8f : Fresh H D8 := fresh_of gG hD8
    have w8 : Go T G (upd G D8 (.lst [])) := go_upd gG.2 hD8
    have eL8 := w8.at eL
    have eD8' := w8.at eDG
    have ax8 := ax.imp fun _ _ h => NamesAt.ext h w8.t
    have ar8 := arG.imp fun _ _ h => NamesAt.ext h w8.t
    refine lc_list (xs := xs) (fun j G' => GoE T [D8] (upd G D8 (.lst [])) G' ∧ ∃ acc, G' D8 = some (.lst acc) ∧ All2 (NamesAt G') acc (((setsOf (so ls.flatten)).take j).filter (hit ls))) ⟨GoE.refl w8.2, [], upd_same, All2.nil⟩ (fun j G' _ h => h.1.seq (SqL.of eL8) (by simpa using nL8)) (fun j x G' hx h => ?_) (fun G' h => ?_)
    · obtain ⟨g', acc, eA, aa⟩ := h
      obtain ⟨row, hrow, t1, rfl, e1⟩ := ax8.at hx
      have e1 := g'.t _ _ e1
      have eDr := g'.at eD8' (by simpa using nD8)
      have arr := ar8.imp fun _ _ h => NamesAt.ext h g'.t
      have st : ((setsOf (so ls.flatten)).take (j + 1)).filter (hit ls) = ((setsOf (so ls.flatten)).take j).filter (hit ls) ++ (if hit ls row = true then [row] else []) := by
        rw [take_snoc hrow, List.filter_append]
        congr 1
        by_cases z : hit ls row = true
        · rw [if_pos z]; simp [z]
        · rw [if_neg z]; simp [z]
      have fin : ∀ (G9 : Hp), Go T G' G9 → if hit ls row = true then (∃ acc, G9 D8 = some (.lst acc) ∧ acc.length < sizeLine ∧ (GoE T [D8] (upd G D8 (.lst [])) (upd G9 D8 (.lst (acc ++ [.ref t1]))) ∧ ∃ acc2, upd G9 D8 (.lst (acc ++ [.ref t1])) D8 = some (.lst acc2) ∧ All2 (NamesAt (upd G9 D8 (.lst (acc ++ [.ref t1])))) acc2 (((setsOf (so ls.flatten)).take (j + 1)).filter (hit ls))))
          else (GoE T [D8] (upd G D8 (.lst [])) G9 ∧ ∃ acc, G9 D8 = some (.lst acc) ∧ All2 (NamesAt G9) acc (((setsOf (so ls.flatten)).take (j + 1)).filter (hit ls))) := fun G9 w9 => by
        have eA9 := w9.at eA
        have aa9 := aa.imp fun _ _ h => NamesAt.ext h w9.t
        rw [st]
        by_cases z : hit ls row = true
        · rw [if_pos z, if_pos z]
          have w10 : GoE T [D8] G9 (upd G9 D8 (.lst (acc ++ [.ref t1]))) := go_set w9.2 eA9 mu_lst (by simp)
          refine ⟨acc, eA9, ?_, (g'.trans (Go.any w9)).trans w10, _, upd_same, ?_⟩
          · rw [aa.1, sizeLine_eq]
            have h1 := List.length_filter_le (hit ls) ((setsOf (so ls.flatten)).take j)
            rw [List.length_take] at h1
            have := ax.1
            omega
          · exact (aa9.imp fun _ _ h => NamesAt.ext h w10.t).snoc ⟨t1, rfl, w10.t _ _ (w9.t _ _ e1)⟩
        · rw [if_neg z, if_neg z, List.append_nil]
          exact ⟨g'.trans (Go.any w9), acc, eA9, aa9⟩
      refine ⟨rfl, _, rfl, D, rfl, ⟨_, SqL.of eDr⟩, ⟨g'.2.w, fun b hb => ?_⟩, fun H5 cd post => ?_⟩
      · rcases List.mem_cons.mp hb with e | hb
        · obtain ⟨ps, e2, _⟩ := g'.2.p
          exact ⟨_, by rw [e]; exact e2⟩
        · obtain ⟨ps, e2, _⟩ := g'.2.m
          exact ⟨_, by rw [List.mem_singleton.mp hb]; exact e2⟩
      obtain ⟨⟨tN, kp⟩, c', P', rfl, ec, tP, nPw, nPl⟩ := post
      have w9 : Go T G' H5 := g'.2.wx tN kp
      have eD9 := w9.at eDr
      have ar9 := arr.imp fun _ _ h => NamesAt.ext h w9.t
      have e19 := w9.t _ _ e1
      refine turns_of rs.length (fun k G9 => (Go T H5 G9 ∧ TabG G9 P') ∧ ∀ o ∈ ls.take k, (row.any fun n => decide (n ∈ o)) = true) ⟨⟨GoE.refl w9.2, tP⟩, fun o ho => by simp at ho⟩ (fun G9 h9 => ⟨⟨rs, SqL.of (h9.1.1.at eD9), Nat.le_refl _⟩, ?_⟩) (fun k G9 hk h9 => ⟨⟨rs, rs[k], SqL.of (h9.1.1.at eD9), List.getElem?_eq_getElem hk⟩, fun x G2 y => ?_⟩)
      · have e : hit ls row = true := by
          unfold hit
          rw [List.all_eq_true]
          intro o ho
          refine h9.2 o ?_
          rw [List.take_of_length_le (Nat.le_of_eq ar.1.symm)]
          exact ho
        have f9 := fin G9 (w9.trans h9.1.1)
        rw [if_pos e] at f9
        exact ⟨true, rfl, (if_pos rfl).mpr ⟨_, rfl, f9⟩⟩
      · obtain ⟨rfl, y⟩ := y
        have hx := y _ (SqL.of (h9.1.1.at eD9))
        clear y
        obtain ⟨o, ho, u1, rfl, eu⟩ := ar9.at hx
        have eu := h9.1.1.t _ _ eu
        have e1x := h9.1.1.t _ _ e19
        refine ⟨wipe_one, _, rfl, t1, rfl, ⟨_, SqT.of e1x⟩, ⟨c', P', rfl, h9.1.1.1 _ _ ec codeG_ne (.inl (by simp)), h9.1.2⟩, fun H6 cd6 post6 => ?_⟩
        have tb6 := post6 c' P' rfl (h9.1.1.1 _ _ ec codeG_ne (.inl (by simp)))
        have w10 : Go T G2 H6 := h9.1.1.2.gx nPw nPl h9.1.2 tb6
        have tP6 : TabG H6 P' := tb6.1
        have e16 := w10.t _ _ e1x
        have eu6 := w10.t _ _ eu
        have w59 : Go T H5 H6 := h9.1.1.trans w10
        have hle : (row.map V.str).length = row.length := List.length_map _
        refine turns_of row.length (fun m G7 => G7 = H6 ∧ ∀ n ∈ row.take m, ¬ n ∈ o) ⟨rfl, fun n hn => by simp at hn⟩ (fun G7 h7 => ⟨⟨row.map V.str, ?_, by rw [hle]; exact Nat.le_refl _⟩, ?_⟩) (fun m G7 hm h7 => ⟨⟨row.map V.str, .str row[m], ?_, by rw [List.getElem?_map, List.getElem?_eq_getElem hm]; rfl⟩, fun x7 G8 y7 => ?_⟩)
        · rw [h7.1]; exact SqT.of e16
        · obtain ⟨rfl, h7⟩ := h7
          have hno : (row.any fun n => decide (n ∈ o)) = false := by
            rw [List.any_eq_false]
            intro n hn
            have := h7 n (by rw [List.take_length]; exact hn)
            simpa using this
          refine ⟨false, rfl, (if_neg Bool.false_ne_true).mpr ?_⟩
          have e : ¬ hit ls row = true := by
            unfold hit
            rw [List.all_eq_true]
            intro z
            have := z o (List.mem_of_getElem? ho)
            rw [hno] at this
            cases this
          have f9 := fin G7 (w9.trans w59)
          rw [if_neg e] at f9
          exact ⟨false, rfl, (if_neg Bool.false_ne_true).mpr f9⟩
        · rw [h7.1]; exact SqT.of e16
        · obtain ⟨rfl, h7⟩ := h7
          obtain ⟨rfl, y7⟩ := y7
          have hx7 := y7 _ (SqT.of e16)
          clear y7
          obtain ⟨n, hn, rfl⟩ := str_at hx7
          refine ⟨wipe_one, _, rfl, _, rfl, u1, _, rfl, .inr (SqT.of eu6), rfl, flat_strs _, _, rfl, ?_⟩
          show (if inV (.str n) (o.map V.str) = false then _ else _)
          rw [inV_str]
          by_cases hm2 : n ∈ o
          · refine iteF' (by rw [decide_eq_true hm2]; decide) ⟨true, rfl, (if_pos rfl).mpr ⟨⟨w59, tP6⟩, fun q hq => ?_⟩⟩
            rw [take_snoc ho] at hq
            rcases List.mem_append.mp hq with z | z
            · exact h9.2 q z
            · rw [List.mem_singleton.mp z]
              exact List.any_eq_true.mpr ⟨n, List.mem_of_getElem? hn, decide_eq_true hm2⟩
          · refine (if_pos (decide_eq_false hm2)).mpr ⟨rfl, fun q hq => ?_⟩
            rw [take_snoc hn] at hq
            rcases List.mem_append.mp hq with z | z
            · exact h7 q z
            · rw [List.mem_singleton.mp z]; exact hm2
    obtain ⟨g', ys, eY, ay⟩ := h
    rw [List.take_of_length_le (Nat.le_of_eq ax.1.symm)] at ay
    have gY : Go T H G' := GoE.news (gG.trans w8) g' fun b hb => by rw [List.mem_singleton.mp hb]; exact hD8f
    generalize hrd : (setsOf (so ls.flatten)).filter (hit ls) = rd at ay k2
    have hrn : rd ≠ [] := by
      rw [← hrd]
      exact ready_ne fun o ho => (hol o ho).1
    have hr8 : ∀ q ∈ rd, q.length ≤ 8 := fun q hq => by
      rw [← hrd] at hq
      have := sets_row (List.mem_filter.mp hq).1
      omega
    clear g' w8 eL8 eD8' ax8 ar8 arG eDG gG ax eL g hrd hnl hll hol hfl h60 ar hn8 hxl
    have pre : ∀ {G : Hp}, TOk T G → TabN G T.w [T.p, T.m] ∧ ∀ b ∈ [T.p, T.m], ∃ o, G b = some o := fun {G} t => ⟨t.w, fun b hb => by
      rcases List.mem_cons.mp hb with e | hb
      · obtain ⟨ps, e2, _⟩ := t.p
        exact ⟨_, by rw [e]; exact e2⟩
      · obtain ⟨ps, e2, _⟩ := t.m
        exact ⟨_, by rw [List.mem_singleton.mp hb]; exact e2⟩⟩
    refine ⟨_, rfl, D8, rfl, ⟨_, SqL.of eY⟩, pre gY.2, fun H5 cd post S2 hS2 => ?_⟩
    obtain ⟨⟨tN, kp⟩, -⟩ := post
    have w5 : Go T G' H5 := gY.2.wx tN kp
    have g5 := gY.trans w5
    have hS2f : Fresh H S2 := fresh_of g5 hS2
    have n82 : D8 ≠ S2 := ne_of_none (w5.at eY) hS2
    have w6 : Go T H5 (upd H5 S2 (.lst [])) := go_upd w5.2 hS2
    have g6 := g5.trans w6
    have eY6 := (w5.trans w6).at eY
    have ay6 := ay.imp fun _ _ h => NamesAt.ext h (w5.trans w6).t
    have hly : ys.length = rd.length := ay.1
    have tkx : ∀ {i : Nat} {row : List Str}, rd[i]? = some row → rd.take (i + 1) = rd.take i ++ [row] := fun h => take_snoc h
    refine turnsK_of ys.length (fun i G => GoE T [S2] (upd H5 S2 (.lst [])) G ∧ ((i = 0 ∧ G S2 = some (.lst [])) ∨ ∃ m : Nat, G S2 = some (.lst [.int m, .int m]) ∧ (∃ q ∈ rd.take i, q.length = m) ∧ ∀ q ∈ rd.take i, m ≤ q.length)) ⟨GoE.refl w6.2, .inl ⟨rfl, upd_same⟩⟩ (fun G h => ⟨⟨ys, h.1.seq (SqL.of eY6) (by simpa using n82), Nat.le_refl _⟩, ?_⟩)
      (fun i G hi h => ⟨⟨ys, ys[i], h.1.seq (SqL.of eY6) (by simpa using n82), List.getElem?_eq_getElem hi⟩, fun x G2 y => ?_⟩)
    rotate_left
    · obtain ⟨g, h⟩ := h
      obtain ⟨rfl, y⟩ := y
      have hx := y _ (g.seq (SqL.of eY6) (by simpa using n82))
      clear y
      obtain ⟨row, hrow, t1, rfl, e1⟩ := ay6.at hx
      have e1 := g.t _ _ e1
      have el : ((row.map V.str).length : Int) = ((row.length : Nat) : Int) := by rw [List.length_map]
      refine ⟨wipe_one, _, rfl, t1, _, rfl, .inr (SqT.of e1), ?_⟩
      rw [el]
      have nx : ∀ (m : Nat), (∃ q ∈ rd.take (i + 1), q.length = m) → (∀ q ∈ rd.take (i + 1), m ≤ q.length) → ∀ {u : HO}, G2 S2 = some u → ((∀ ps, u ≠ .tbl ps) ∧ (∀ φ, u ≠ .ext φ) ∧ ∀ xs, u ≠ .tup xs) → GoE T [S2] (upd H5 S2 (.lst [])) (upd G2 S2 (.lst [.int m, .int m])) ∧ ((i + 1 = 0 ∧ upd G2 S2 (.lst [.int m, .int m]) S2 = some (.lst [])) ∨ ∃ m' : Nat, upd G2 S2 (.lst [.int m, .int m]) S2 = some (.lst [.int m', .int m']) ∧ (∃ q ∈ rd.take (i + 1), q.length = m') ∧ ∀ q ∈ rd.take (i + 1), m' ≤ q.length) :=
        fun m h1 h2 {u} eu mu => ⟨g.trans (go_set g.2 eu mu (by simp)), .inr ⟨m, upd_same, h1, h2⟩⟩
      refine ⟨⟨.int (row.length : Nat), .int _, (by intro z; cases z), by show 0 ≤ 20; decide, ?_⟩, rfl⟩
      rcases h with ⟨rfl, eS2⟩ | ⟨m, eS2, ⟨q0, hq0, e0⟩, hm⟩
      · refine .inl ⟨eS2, nx row.length ?_ ?_ eS2 mu_lst⟩
        · rw [tkx hrow]
          exact ⟨row, by simp, rfl⟩
        · intro q hq
          rw [tkx hrow] at hq
          have hq : q = row := by simpa using hq
          rw [hq]
          exact Nat.le_refl _
      · refine .inr ⟨_, .int (m : Nat), eS2, .int _, rfl, fun z => ?_, fun z => ?_⟩
        · rw [PySem.W.dataLt_int] at z
          have z : ((row.length : Nat) : Int) < ((m : Nat) : Int) := of_decide_eq_true z
          refine nx row.length ?_ ?_ eS2 mu_lst
          · rw [tkx hrow]
            exact ⟨row, by simp, rfl⟩
          · intro q hq
            rw [tkx hrow] at hq
            rcases List.mem_append.mp hq with k | k
            · have := hm q k
              omega
            · rw [List.mem_singleton.mp k]
              exact Nat.le_refl _
        · rw [PySem.W.dataLt_int] at z
          have z : ¬ ((row.length : Nat) : Int) < ((m : Nat) : Int) := of_decide_eq_false z
          refine ⟨g, .inr ⟨m, eS2, ⟨q0, ?_, e0⟩, ?_⟩⟩
          · rw [tkx hrow]
            exact List.mem_append_left _ hq0
          · intro q hq
            rw [tkx hrow] at hq
            rcases List.mem_append.mp hq with k | k
            · exact hm q k
            · rw [List.mem_singleton.mp k]
              omega
    obtain ⟨g, h⟩ := h
    obtain ⟨m, eS2, hq0, hm⟩ : ∃ m : Nat, G S2 = some (.lst [.int m, .int m]) ∧ (∃ q ∈ rd, q.length = m) ∧ ∀ q ∈ rd, m ≤ q.length := by
      rcases h with ⟨e, _⟩ | ⟨m, h1, h2, h3⟩
      · exact absurd (List.length_eq_zero_iff.mp (hly.symm.trans e)) hrn
      · rw [List.take_of_length_le (Nat.le_of_eq hly.symm)] at h2 h3
        exact ⟨m, h1, h2, h3⟩
    refine ⟨_, eS2, ?_⟩
    have w7 : GoE T [S2] G (upd G S2 (.lst [])) := go_set g.2 eS2 mu_lst (by simp)
    have g7 : Go T H (upd G S2 (.lst [])) := GoE.news g6 (g.trans w7) fun b hb => by rw [List.mem_singleton.mp hb]; exact hS2f
    have eY7 := (g.trans w7).at eY6 (by simpa using n82)
    have ay7 := ay6.imp fun _ _ h => NamesAt.ext h (g.trans w7).t
    generalize upd G S2 (.lst []) = G7 at g7 eY7 ay7 ⊢
    clear w7 g eS2 ay6 eY6 g6 w6 n82 hS2f g5 w5 tN kp hS2 ay eY
    refine ⟨_, rfl, D8, rfl, ⟨_, SqL.of eY7⟩, pre g7.2, fun H8 cd post S3 hS3 => ?_⟩
    obtain ⟨⟨tN, kp⟩, -⟩ := post
    have w8 : Go T G7 H8 := g7.2.wx tN kp
    have g8 := g7.trans w8
    have hS3f : Fresh H S3 := fresh_of g8 hS3
    have n83 : D8 ≠ S3 := ne_of_none (w8.at eY7) hS3
    have w9 : Go T H8 (upd H8 S3 (.lst [])) := go_upd w8.2 hS3
    have g9 := g8.trans w9
    have eY9 := (w8.trans w9).at eY7
    have ay9 := ay7.imp fun _ _ h => NamesAt.ext h (w8.trans w9).t
    refine turnsK_of ys.length (fun i G => GoE T [S3] (upd H8 S3 (.lst [])) G ∧ (((∀ q ∈ rd.take i, q.length ≠ m) ∧ G S3 = some (.lst [])) ∨ ∃ t p, G S3 = some (.lst [.ref t, .ref t]) ∧ G t = some (.tup (p.map V.str)) ∧ p ∈ rd.take i ∧ p.length = m ∧ ∀ q ∈ rd.take i, q.length = m → ltR q p = false)) ⟨GoE.refl w9.2, .inl ⟨fun q hq => by simp at hq, upd_same⟩⟩ (fun G h => ⟨⟨ys, h.1.seq (SqL.of eY9) (by simpa using n83), Nat.le_refl _⟩, ?_⟩)
      (fun i G hi h => ⟨⟨ys, ys[i], h.1.seq (SqL.of eY9) (by simpa using n83), List.getElem?_eq_getElem hi⟩, fun x G2 y => ?_⟩)
    · obtain ⟨g, h⟩ := h
      rcases h with ⟨h1, _⟩ | ⟨t, p, eS3, ep, hp, hpl, hlt⟩
      · rw [List.take_of_length_le (Nat.le_of_eq hly.symm)] at h1
        obtain ⟨q, hq, e⟩ := hq0
        exact absurd e (h1 q hq)
      · rw [List.take_of_length_le (Nat.le_of_eq hly.symm)] at hp hlt
        refine ⟨_, eS3, ?_⟩
        have w10 : GoE T [S3] G (upd G S3 (.lst [])) := go_set g.2 eS3 mu_lst (by simp)
        refine k2 _ t p (GoE.news g9 (g.trans w10) fun b hb => by rw [List.mem_singleton.mp hb]; exact hS3f) (w10.t _ _ ep) ⟨hp, fun q hq => ?_, fun q hq e => hlt q hq (e.trans hpl)⟩
        rw [hpl]
        exact hm q hq
    · obtain ⟨g, h⟩ := h
      obtain ⟨rfl, y⟩ := y
      have hx := y _ (g.seq (SqL.of eY9) (by simpa using n83))
      clear y
      obtain ⟨row, hrow, t1, rfl, e1⟩ := ay9.at hx
      have e1 := g.t _ _ e1
      have el : ((row.map V.str).length : Int) = ((row.length : Nat) : Int) := by rw [List.length_map]
      have eq : decide (V.int ((row.length : Nat) : Int) = V.int ((m : Nat) : Int)) = decide (row.length = m) := by
        rw [Bool.eq_iff_iff, decide_eq_true_iff, decide_eq_true_iff]
        exact ⟨fun z => by have := V.int.inj z; omega, fun z => by rw [z]⟩
      refine ⟨wipe_one, _, rfl, t1, _, rfl, .inr (SqT.of e1), _, rfl, rfl, _, rfl, ?_⟩
      rw [el, eq]
      by_cases hrm : row.length = m
      · refine (if_pos (decide_eq_true hrm)).mpr ⟨_, rfl, ?_⟩
        have hin : row ∈ rd.take (i + 1) := by
          rw [tkx hrow]
          simp
        have nx : (∀ q ∈ rd.take (i + 1), q.length = m → ltR q row = false) → ∀ {u : HO}, G2 S3 = some u → ((∀ ps, u ≠ .tbl ps) ∧ (∀ φ, u ≠ .ext φ) ∧ ∀ xs, u ≠ .tup xs) → GoE T [S3] (upd H8 S3 (.lst [])) (upd G2 S3 (.lst [.ref t1, .ref t1])) ∧ (((∀ q ∈ rd.take (i + 1), q.length ≠ m) ∧ upd G2 S3 (.lst [.ref t1, .ref t1]) S3 = some (.lst [])) ∨
            ∃ t p, upd G2 S3 (.lst [.ref t1, .ref t1]) S3 = some (.lst [.ref t, .ref t]) ∧ upd G2 S3 (.lst [.ref t1, .ref t1]) t = some (.tup (p.map V.str)) ∧ p ∈ rd.take (i + 1) ∧ p.length = m ∧ ∀ q ∈ rd.take (i + 1), q.length = m → ltR q p = false) := fun h2 {u} eu mu => by
          have w10 : GoE T [S3] G2 (upd G2 S3 (.lst [.ref t1, .ref t1])) := go_set g.2 eu mu (by simp)
          exact ⟨g.trans w10, .inr ⟨t1, row, upd_same, w10.t _ _ e1, hin, hrm, h2⟩⟩
        refine ⟨⟨rowD row, .tup (SqT.of e1) (dp_strs _), (by intro z; cases z), depth_rowD row, ?_⟩, rfl⟩
        rcases h with ⟨h1, eS3⟩ | ⟨t, p, eS3, ep, hp, hpl, hlt⟩
        · refine .inl ⟨eS3, nx (fun q hq e => ?_) eS3 mu_lst⟩
          rw [tkx hrow] at hq
          rcases List.mem_append.mp hq with k | k
          · exact absurd e (h1 q k)
          · rw [List.mem_singleton.mp k]
            exact ltR_irrefl row
        · refine .inr ⟨_, rowD p, eS3, .tup (SqT.of ep) (dp_strs _), alike_rowD _ _, fun z => nx (fun q hq e => ?_) eS3 mu_lst, fun z => ⟨g, .inr ⟨t, p, eS3, ep, ?_, hpl, fun q hq e => ?_⟩⟩⟩
          · rw [tkx hrow] at hq
            rcases List.mem_append.mp hq with k | k
            · have h1 := hlt q k e
              cases h2 : ltR q row with
              | false => rfl
              | true =>
                have := ltR_trans h2 z
                rw [h1] at this
                cases this
            · rw [List.mem_singleton.mp k]
              exact ltR_irrefl row
          · rw [tkx hrow]
            exact List.mem_append_left _ hp
          · rw [tkx hrow] at hq
            rcases List.mem_append.mp hq with k | k
            · exact hlt q k e
            · rw [List.mem_singleton.mp k]
              exact z
      · refine (if_neg (by rw [decide_eq_false hrm]; decide)).mpr ⟨⟨g, ?_⟩, rfl⟩
        rcases h with ⟨h1, eS3⟩ | ⟨t, p, eS3, ep, hp, hpl, hlt⟩
        · refine .inl ⟨fun q hq => ?_, eS3⟩
          rw [tkx hrow] at hq
          rcases List.mem_append.mp hq with k | k
          · exact h1 q k
          · rw [List.mem_singleton.mp k]
            exact hrm
        · refine .inr ⟨t, p, eS3, ep, ?_, hpl, fun q hq e => ?_⟩
          · rw [tkx hrow]
            exact List.mem_append_left _ hp
          · rw [tkx hrow] at hq
            rcases List.mem_append.mp hq with k | k
            · exact hlt q k e
            · rw [List.mem_singleton.mp k] at e
              exact absurd e hrm
end
end R
end Text_R18
section Text_R19
set_option Elab.async false
set_option linter.all false
set_option maxRecDepth 100000
set_option maxHeartbeats 4000000
namespace R
open PySem PySem.Spec PyProof.Rows L2 Gx GxR
/-- [(x, 1) for x in ..] of texts -/
theorem lc_pairs {T : Tb} {J : It} {St : Hp → Prop} {xs : List Str} {i : Nat} {te : TE} {σ : L2.St} {H1 : Hp} {D : Addr} {Qd : Hp → Prop} (ov : Ov J St (xs.map V.str)) (tk : TOk T H1) (hD : H1 D = none) (hst : ∀ G, GoE T [D] (upd H1 D (.lst [])) G → St G) (hl : xs.length ≤ 1000)
    (hte : ∀ (x : Str) (G : Hp) (Q' : VK), (∀ p, G p = none → Q' (.ref p) (upd G p (.tup [.str x, .int 1]))) → te ((wipe σ [i]).set i (some (.str x))) G Q')
    (h : ∀ G ps, GoE T [D] (upd H1 D (.lst [])) G → G D = some (.lst (ps.map V.ref)) → All2 (fun p (x : Str) => G p = some (.tup [.str x, .int 1])) ps xs → Qd G) :
    ∃ W : Nat → Nat → Hp → Prop, (∃ m, W 0 m (upd H1 D (.lst []))) ∧ ∀ j m H, W j m H →
      (J.stop j H ∧ Qd H) ∨ (J.go j H ∧ ∃ Nx : Hp → Prop, (∀ H', Nx H' → ∃ m', m' < m ∧ W (j + 1) m' H') ∧ ∀ x H', J.yld j H x H' → gName i x (wipe σ [i]) H' fun σ2 H2 => wipe σ2 [i] = wipe σ [i] ∧ tYes σ2 H2 fun b H3 =>
        if b = true then te σ2 H3 fun y H4 => ∃ acc, H4 D = some (.lst acc) ∧ acc.length < sizeLine ∧ Nx (upd H4 D (.lst (acc ++ [y]))) else Nx H3) := by
  have hle : (xs.map V.str).length = xs.length := List.length_map _
  refine ⟨fun j m G => j + m = xs.length ∧ GoE T [D] (upd H1 D (.lst [])) G ∧ ∃ ps, G D = some (.lst (ps.map V.ref)) ∧ All2 (fun p (x : Str) => G p = some (.tup [.str x, .int 1])) ps (xs.take j), ⟨xs.length, Nat.zero_add _, GoE.refl (go_upd (S := [D]) tk hD).2, [], upd_same, All2.nil⟩, fun j m G w => ?_⟩
  obtain ⟨e, g, ps, eD, al⟩ := w
  rcases Nat.lt_or_ge j xs.length with hj | hj
  · refine .inr ⟨ov.go j _ (hst _ g) (by rw [hle]; exact hj), fun G => GoE T [D] (upd H1 D (.lst [])) G ∧ ∃ ps, G D = some (.lst (ps.map V.ref)) ∧ All2 (fun p (x : Str) => G p = some (.tup [.str x, .int 1])) ps (xs.take (j + 1)), fun G' q => ⟨m - 1, by omega, by omega, q⟩, fun x G' yy => ?_⟩
    obtain ⟨rfl, hx⟩ := ov.yld j _ x G' (hst _ g) (by rw [hle]; exact hj) yy
    clear yy
    obtain ⟨y, hy, rfl⟩ := str_at hx
    refine ⟨wipe_one, hte y _ _ fun p hp => ?_⟩
    have w1 : GoE T [D] G' (upd G' p (.tup [.str y, .int 1])) := go_upd g.2 hp
    have eD1 : upd G' p (.tup [.str y, .int 1]) D = some (.lst (ps.map V.ref)) := by rw [upd_ne (ne_of_none eD hp)]; exact eD
    have w2 : GoE T [D] (upd G' p (.tup [.str y, .int 1])) (upd (upd G' p (.tup [.str y, .int 1])) D (.lst (ps.map V.ref ++ [.ref p]))) := go_set w1.2 eD1 mu_lst (by simp)
    refine ⟨_, eD1, ?_, (g.trans w1).trans w2, ps ++ [p], ?_, ?_⟩
    · rw [List.length_map, al.1, sizeLine_eq, List.length_take]
      omega
    · rw [upd_same, List.map_append]
      rfl
    · rw [take_snoc hy]
      exact (al.imp fun q x e => (w1.trans w2).t _ _ e).snoc (w2.t _ _ upd_same)
  · have e2 : j = xs.length := by omega
    subst e2
    refine .inl ⟨?_, h G ps g eD ?_⟩
    · have := ov.stop G (hst _ g)
      rw [hle] at this
      exact this
    · rw [List.take_length] at al
      exact al
theorem paired_of {α β : Type} {F : α → β → Prop} : ∀ {xs : List α} {ys : List β}, All2 F xs ys → Paired F xs ys
  | [], [], _ => .nil
  | [], _ :: _, a => by cases a.1
  | _ :: _, [], a => by cases a.1
  | x :: xs, y :: ys, a => .cons (a.2 0 x y rfl rfl) (paired_of ⟨by have := a.1; simpa using this, fun i u v h1 h2 => a.2 (i + 1) u v (by simpa using h1) (by simpa using h2)⟩)
theorem merge_keys (v : V) (xs : List Str) : mergeK [] (xs.map fun x => ((Sum.inr x : Key), v)) = keyTab v (uniq xs) := by
  have : ∀ (xs u : List Str), mergeK (keyTab v u) (xs.map fun x => ((Sum.inr x : Key), v)) = keyTab v (xs.foldl (fun l x => if x ∈ l then l else l ++ [x]) u) := by
    intro xs
    induction xs with
    | nil => exact fun _ => rfl
    | cons x xs ih =>
      intro u
      show mergeK (putK (keyTab v u) (Sum.inr x) v) _ = _
      rw [put_key, ih]
      rfl
  exact this xs []
/-- pairs of such a list -/
theorem dict_paired {K : PySem.W.Frag} {G : Hp} {ps : List Addr} {xs : List Str} (al : All2 (fun p (x : Str) => G p = some (.tup [.str x, .int 1])) ps xs) : Paired (fun p (kv : Key × V) => SqT K G p [kV kv.1, kv.2]) ps (xs.map fun x => ((Sum.inr x : Key), V.int 1)) :=
  paired_of ⟨by rw [List.length_map]; exact al.1, fun i p kv h1 h2 => by
    rw [List.getElem?_map] at h2
    cases e : xs[i]? with
    | none => rw [e] at h2; cases h2
    | some x =>
      rw [e] at h2
      obtain rfl := Option.some.inj h2
      exact SqT.of (al.2 i p x h1 e)⟩
/-- what differs, by its path -/
def lchg (A B : Files) : List Str := (paths A B).filter fun p => !decide (lk A p = lk B p)
theorem paths_len (A B : Files) : (paths A B).length ≤ A.length + B.length := by
  refine Nat.le_trans (so_len _) ?_
  rw [List.length_append, List.length_map, List.length_map]
  exact Nat.le_refl _
theorem lk_some {A : Files} {p : Str} (h : ∃ q ∈ A, q.1 = p) : ∃ x, lk A p = some x := by
  cases e : lk A p with
  | some x => exact ⟨x, rfl⟩
  | none =>
    obtain ⟨q, hq, e2⟩ := h
    exact absurd e2 (lk_none e q hq)
theorem chg_snd (A B : Files) : (chg A B).map (·.2) = lchg A B := by
  have : ∀ l : List Str, (∀ p ∈ l, p ∈ paths A B) → (l.filterMap (chgOf A B)).map (·.2) = l.filter fun p => !decide (lk A p = lk B p) := by
    intro l
    induction l with
    | nil => exact fun _ => rfl
    | cons p l ih =>
      intro hp
      have ih := ih fun q hq => hp q (List.mem_cons_of_mem _ hq)
      rw [List.filterMap_cons, List.filter_cons]
      cases hA : lk A p with
      | none =>
        have e : chgOf A B p = some (("come" : Str), p) := by unfold chgOf; rw [hA]
        have hB : ¬ (none : Option Str) = lk B p := fun z => by
          rcases paths_mem (hp p List.mem_cons_self) with q | q
          · obtain ⟨x, hx⟩ := lk_some q
            rw [hA] at hx
            cases hx
          · obtain ⟨x, hx⟩ := lk_some q
            rw [← z] at hx
            cases hx
        rw [e, decide_eq_false hB]
        simp [ih]
      | some x =>
        cases hB : lk B p with
        | none =>
          have e : chgOf A B p = some (("gone" : Str), p) := by unfold chgOf; rw [hA, hB]
          rw [e]
          simp [ih]
        | some y =>
          by_cases z : x = y
          · have e : chgOf A B p = none := by unfold chgOf; rw [hA, hB]; exact if_pos z
            rw [e, z]
            simp [ih]
          · have e : chgOf A B p = some (("other" : Str), p) := by unfold chgOf; rw [hA, hB]; exact if_neg z
            rw [e]
            simp [ih, z]
  exact this _ fun _ h => h
def spLChg (T : Tb) : Sp := fun vs H Q _ => ∃ a b A B, vs = [.ref a, .ref b] ∧ H a = some (.dK (fk A)) ∧ H b = some (.dK (fk B)) ∧ A.length ≤ 10 ∧ B.length ≤ 10 ∧ TOk T H ∧
  ∀ H' l, Go T H H' → H' l = some (.lst ((lchg A B).map V.str)) → Q (.ref l) H'
abbrev NLc : List Str := ["one", "other", "path", "paths"]
theorem scLc : FnScope NLc ["one", "other"] (defScope sLChg) := ⟨rfl, rfl, rfl, by decide +kernel, rfl, by decide +kernel, by decide +kernel⟩
section
variable {P : Program} {w : World} {K : PySem.W.Frag} {mg : Str → Option Value} {base : Heap} {T : Tb}
theorem ok_lchg {f : Addr} {fd : FuncData} (F : Fun K "_law_changed" "_law_changed" sLChg f fd) (X : Tx K mg) : FnOk P w K mg base CX0 1 f fd ["one", "other"] (spLChg T) := by
  refine F.ok scLc (fun vs H Q E h => ?_) (fun cdv A0 outer s H vs Q E hr h => ?_)
  · obtain ⟨a, b, A, B, rfl, _⟩ := h
    rfl
  · obtain ⟨a, b, A, B, rfl, ha, hb, lA, lB, tk, k1⟩ := h
    have hu := hu_of hr
    refine ⟨_, pss_cons (ps_set (i := 3) scLc.nd rfl (Or.inl rfl) (pe_callB (call_sortedD rfl) (by rfl) X.sorted (by decide +kernel) (pa_cons (pe_callTy (call_dictP rfl) (by rfl) X.dict (by decide +kernel) (pa_cons (pe_lc (own := [("path", 2)]) (g := gName 2) (tt := tYes) rfl scLc.nd
          (pi_list (pe_op op_cat (pe_callTy (call_listD rfl) (by rfl) X.list (by decide +kernel) (pa_cons (pv 0) pa_nil)) (pe_callTy (call_listD rfl) (by rfl) X.list (by decide +kernel) (pa_cons (pv 1) pa_nil))))
          (blkOk_by (N := NLc) (sc := defScope sLChg) (by decide +kernel)) (fun _ _ _ _ _ => pg_name (i := 2) scLc.nd rfl (Or.inl rfl)) (fun _ _ _ _ _ => pts_nil) (fun _ _ _ _ _ => pe_tup (pa_cons (pv 2) (pa_cons pe_int pa_nil)))) pa_nil)) pa_nil)))
      (pss_one (ps_ret (pe_lc (own := [("path", 2)]) (g := gName 2) rfl scLc.nd (pi_list (pv 3)) (blkOk_by (N := NLc) (sc := defScope sLChg) (by decide +kernel)) (fun _ _ _ _ _ => pg_name (i := 2) scLc.nd rfl (Or.inl rfl))
          (fun _ _ _ _ _ => pts_one (pt_cmpR op_ne (pe_dget1 hu (pv 0) (pv 2) ⟨rfl, rfl, rfl, rfl⟩) (pe_dget1 hu (pv 1) (pv 2) ⟨rfl, rfl, rfl, rfl⟩) (nomark _))) (fun _ _ _ _ _ => pv 2)))), ?_⟩
    have g1 : Go T H H := GoE.refl tk
    refine ⟨_, rfl, a, fk A, rfl, Rd.of ha, fun p hp => ⟨_, rfl, b, fk B, rfl, ?_⟩⟩
    have g2 := g1.trans (go_upd (o := .lst ((fk A).map fun kv => kV kv.1)) g1.2 hp)
    refine ⟨Rd.of (g2.at hb), fun q hq => ?_⟩
    have g3 := g2.trans (go_upd (o := .lst ((fk B).map fun kv => kV kv.1)) g2.2 hq)
    have hpq : p ≠ q := fun e => by rw [← e, upd_same] at hq; cases hq
    refine ⟨p, q, _, _, rfl, rfl, by rw [upd_ne hpq]; exact upd_same, upd_same, by rw [List.length_map, List.length_map, fk_len, fk_len, sizeLine_eq]; omega, fun r hr => ?_⟩
    have g4 := g3.trans (go_upd (o := .lst (((fk A).map fun kv => kV kv.1) ++ (fk B).map fun kv => kV kv.1)) g3.2 hr)
    have ek : (((fk A).map fun kv => kV kv.1) ++ (fk B).map fun kv => kV kv.1) = (A.map (·.1) ++ B.map (·.1)).map V.str := by
      unfold fk
      rw [List.map_map, List.map_map, List.map_append, List.map_map, List.map_map]
      rfl
    rw [ek] at g4 ⊢
    have er : upd (upd (upd H p (.lst ((fk A).map fun kv => kV kv.1))) q (.lst ((fk B).map fun kv => kV kv.1))) r (.lst ((A.map (·.1) ++ B.map (·.1)).map V.str)) r = some (.lst ((A.map (·.1) ++ B.map (·.1)).map V.str)) := upd_same
    generalize upd (upd (upd H p (.lst ((fk A).map fun kv => kV kv.1))) q (.lst ((fk B).map fun kv => kV kv.1))) r (.lst ((A.map (·.1) ++ B.map (·.1)).map V.str)) = H4 at g4 er ⊢
    refine ⟨r, rfl, ⟨_, SqL.of er⟩, fun D hD => ?_⟩
    have hrD : r ≠ D := ne_of_none er hD
    have w5 : Go T H4 (upd H4 D (.lst [])) := go_upd g4.2 hD
    have hDf : Fresh H D := fresh_of g4 hD
    refine lc_pairs (T := T) (xs := A.map (·.1) ++ B.map (·.1)) ov_l g4.2 hD (fun G g => g.seq (SqL.of (w5.at er)) (by simpa using hrD)) (by rw [List.length_append, List.length_map, List.length_map]; omega) (fun x G Q' k => ⟨_, rfl, by show 2 ≤ sizeLine; decide, k⟩) fun G ps g eD al => ?_
    have g5 : Go T H G := GoE.news (g4.trans w5) g fun b hb => by rw [List.mem_singleton.mp hb]; exact hDf
    refine ⟨D, ps, _, rfl, SqL.of eD, dict_paired al, fun d hd => ?_⟩
    rw [merge_keys]
    have g6 := g5.trans (go_upd (o := .dK (keyTab (.int 1) (uniq (A.map (·.1) ++ B.map (·.1))))) g5.2 hd)
    have hlen : (uniq (A.map (·.1) ++ B.map (·.1))).length ≤ 20 := by
      refine Nat.le_trans (uniq_len _) ?_
      rw [List.length_append, List.length_map, List.length_map]
      omega
    refine ⟨d, _, uniq (A.map (·.1) ++ B.map (·.1)), rfl, Rd.of upd_same, keyTab_keys _ _, by omega, fun ys S pm sr hS => ?_⟩
    have ey : ys = paths A B := srt_eq pm sr
    subst ey
    have plen := paths_len A B
    have g7 := g6.trans (go_upd (o := .lst ((paths A B).map V.str)) g6.2 hS)
    have eS : upd (upd G d (.dK (keyTab (.int 1) (uniq (A.map (·.1) ++ B.map (·.1)))))) S (.lst ((paths A B).map V.str)) S = some (.lst ((paths A B).map V.str)) := upd_same
    generalize upd (upd G d (.dK (keyTab (.int 1) (uniq (A.map (·.1) ++ B.map (·.1)))))) S (.lst ((paths A B).map V.str)) = H7 at g7 eS ⊢
    have ha7 := g7.at ha
    have hb7 := g7.at hb
    refine ⟨_, rfl, S, rfl, ⟨_, SqL.of eS⟩, fun D2 hD2 => ?_⟩
    have nS : S ≠ D2 := ne_of_none eS hD2
    have na : a ≠ D2 := ne_of_none ha7 hD2
    have nb : b ≠ D2 := ne_of_none hb7 hD2
    have w8 : Go T H7 (upd H7 D2 (.lst [])) := go_upd g7.2 hD2
    have hD2f : Fresh H D2 := fresh_of g7 hD2
    refine lc_list (xs := (paths A B).map V.str) (fun i G => GoE T [D2] (upd H7 D2 (.lst [])) G ∧ G D2 = some (.lst ((((paths A B).take i).filter fun p => !decide (lk A p = lk B p)).map V.str))) ⟨GoE.refl w8.2, upd_same⟩ (fun i G _ h => h.1.seq (SqL.of (w8.at eS)) (by simpa using nS)) (fun i x G hix h => ?_) (fun G h => ?_)
    · obtain ⟨g, eA⟩ := h
      obtain ⟨y, hy, rfl⟩ := str_at hix
      have ea := g.at (w8.at ha7) (by simpa using na)
      have eb := g.at (w8.at hb7) (by simpa using nb)
      have da : DGet G a (.str y) ((lk A y).map V.str) := by
        have := DGet.k (k := Sum.inr y) ea
        rw [valV_fk] at this
        exact this
      have db : DGet G b (.str y) ((lk B y).map V.str) := by
        have := DGet.k (k := Sum.inr y) eb
        rw [valV_fk] at this
        exact this
      refine ⟨rfl, _, rfl, a, rfl, .inl ⟨_, Rd.of ea⟩, _, rfl, _, da, _, rfl, b, rfl, .inl ⟨_, Rd.of eb⟩, _, rfl, _, db, ?_, _, rfl, ?_⟩
      · cases lk A y <;> cases lk B y <;> rfl
      · have e : (!decide (((lk A y).map V.str).getD .non = ((lk B y).map V.str).getD .non)) = !decide (lk A y = lk B y) := by
          congr 1
          rw [Bool.eq_iff_iff, decide_eq_true_iff, decide_eq_true_iff]
          cases lk A y <;> cases lk B y <;> simp
        rw [e, filter_snoc hy]
        by_cases z : (!decide (lk A y = lk B y)) = true
        · rw [if_pos z]
          refine (if_pos z).mpr ⟨_, rfl, _, eA, ?_, g.trans (go_set g.2 eA mu_lst (by simp)), by rw [upd_same, List.map_append]; rfl⟩
          rw [List.length_map, sizeLine_eq]
          have h1 := List.length_filter_le (fun p => !decide (lk A p = lk B p)) ((paths A B).take i)
          rw [List.length_take] at h1
          omega
        · rw [if_neg z, List.append_nil]
          exact (if_neg z).mpr ⟨g, eA⟩
    · obtain ⟨g, eA⟩ := h
      rw [List.length_map, List.take_length] at eA
      exact k1 _ D2 (GoE.news (g7.trans w8) g fun b hb => by rw [List.mem_singleton.mp hb]; exact hD2f) eA
end
end R
end Text_R19
section Text_R20
set_option Elab.async false
set_option linter.all false
set_option maxRecDepth 100000
set_option maxHeartbeats 4000000
namespace R
open PySem PySem.Spec PyProof.Rows L2 Gx GxR
/-- a row of owners as the law holds it: the names in a list -/
def RowL (H : Hp) (v : V) (r : Str × List Str) : Prop := ∃ t u, v = .ref t ∧ H t = some (.tup [.str r.1, .ref u]) ∧ H u = some (.lst (r.2.map V.str))
theorem RowL.ext {T : Tb} {S : List Addr} {H H' : Hp} {v : V} {r : Str × List Str} (h : RowL H v r) (g : GoE T S H H') (k : ∀ b ∈ S, Fresh H b ∨ ∃ xs, H b = some (.tup xs)) : RowL H' v r := by
  obtain ⟨t, u, a, b, c⟩ := h
  refine ⟨t, u, a, g.t _ _ b, g.at c fun m => ?_⟩
  rcases k u m with f | ⟨xs, e⟩
  · obtain ⟨ps, e⟩ := f _ c
    cases e
  · rw [c] at e
    cases e
theorem RowL.go {T : Tb} {H H' : Hp} {v : V} {r : Str × List Str} (h : RowL H v r) (g : Go T H H') : RowL H' v r := h.ext g fun b hb => absurd hb (by simp)
theorem fnd_last (p : Str) : ∀ ow : Owns, fnd ow p = (((ow.filter fun r => fitS r.1 p).map (·.2)).getLast?).getD [] := by
  have : ∀ (ow : Owns) (a : List Str), ow.foldl (fun a r => if fitS r.1 p = true then r.2 else a) a = (((ow.filter fun r => fitS r.1 p).map (·.2)).getLast?).getD a := by
    intro ow
    induction ow with
    | nil => exact fun _ => rfl
    | cons r ow ih =>
      intro a
      rw [List.foldl_cons, ih]
      by_cases z : fitS r.1 p = true
      · rw [if_pos z, List.filter_cons, if_pos z, List.map_cons, List.getLast?_cons]
        cases ((ow.filter fun r => fitS r.1 p).map (·.2)).getLast? <;> rfl
      · rw [if_neg z, List.filter_cons, if_neg z]
  exact fun ow => this ow []
/-- the names of the rows that fit -/
def rdyOf (ow : Owns) (p : Str) : List (List Str) := (ow.filter fun r => fitS r.1 p).map (·.2)
theorem rdyOf_snoc {ow : Owns} {p : Str} {i : Nat} {q : Str × List Str} (h : ow[i]? = some q) : rdyOf (ow.take (i + 1)) p = rdyOf (ow.take i) p ++ (if fitS q.1 p = true then [q.2] else []) := by
  unfold rdyOf
  rw [take_snoc h, List.filter_append, List.map_append]
  congr 1
  by_cases z : fitS q.1 p = true
  · rw [if_pos z]; simp [z]
  · rw [if_neg z]; simp [z]
theorem so_nil : so [] = [] := by
  have := so_len []
  exact List.length_eq_zero_iff.mp (Nat.le_zero.mp this)
def LstAt (H : Hp) (v : V) (ns : List Str) : Prop := ∃ t, v = .ref t ∧ H t = some (.lst (ns.map V.str))
def spLOwn (K : PySem.W.Frag) (T : Tb) : Sp := fun vs H Q _ => ∃ a p xs ow, vs = [.ref a, .str p] ∧ SqL K H a xs ∧ All2 (RowL H) xs ow ∧ small ow ∧ namesOk ow ∧ p.cps.toList.length ≤ 1000 ∧ TOk T H ∧
  ∀ H' l, Go T H H' → Fresh H l → H' l = some (.lst ((own ow p).map V.str)) → Q (.ref l) H'
abbrev NOw : List Str := ["rows", "path", "pattern", "names", "ready", "name"]
theorem scOw : FnScope NOw ["rows", "path"] (defScope sLOwn) := ⟨rfl, rfl, rfl, by decide +kernel, rfl, by decide +kernel, by decide +kernel⟩
section
variable {P : Program} {w : World} {K : PySem.W.Frag} {mg : Str → Option Value} {base : Heap} {T : Tb}
theorem ok_lown {f fF : Addr} {fd fdF : FuncData} (F : Fun K "_law_owners" "_law_owners" sLOwn f fd) (X : Tx K mg) (GF : FnOk P w K mg base CX0 18 fF fdF ["pattern", "path"] (spFits T 8)) (mF : mg "fits" = some (.ref fF))
    (kF : PySem.W.keepIn K (.ref fF) = true) (bF : Binds K fdF ["pattern", "path"] []) : FnOk P w K mg base CX0 19 f fd ["rows", "path"] (spLOwn K T) := by
  refine F.ok scOw (fun vs H Q E h => ?_) (fun cdv A0 outer s H vs Q E hr h => ?_)
  · obtain ⟨a, p, xs, ow, rfl, _⟩ := h
    rfl
  · obtain ⟨a, p, xs, ow, rfl, hxs, al, hsm, hno, hp, tk, k1⟩ := h
    refine ⟨_, pss_cons (ps_setLc (i := 4) (own := [("pattern", 2), ("names", 3)]) rfl scOw.nd rfl rfl (by rfl) (pi_list (pv 0)) (blkOk_by (N := NOw) (sc := defScope sLOwn) (by decide +kernel))
          (fun _ _ _ _ _ => pg_tupK K 2 rfl rfl (pgs_cons (pg_name (i := 2) scOw.nd rfl (Or.inl rfl) (Or.inr rfl)) (pgs_cons (pg_name (i := 3) scOw.nd rfl (Or.inl rfl) (Or.inr rfl)) pgs_nil)))
          (fun _ _ _ _ _ => pts_one (pt_val (pe_call GF hr rfl mF kF bF .nil pass0 (pa_cons (pv 2) (pa_cons (pv 1) pa_nil))))) (fun _ _ _ _ _ => pv 3))
      (pss_one (ps_ret (pe_ifExp (pt_cmpR (op_neD hr.units) (pv 4) (pe_lst pa_nil) (nomark _))
        (pe_callB (call_sortedD rfl) (by rfl) X.sorted (by decide +kernel) (pa_cons (pe_callTy (call_dictP rfl) (by rfl) X.dict (by decide +kernel) (pa_cons (pe_lc (own := [("name", 5)]) (g := gName 5) (tt := tYes) rfl scOw.nd
          (pi_list (pe_ix ix_list (pv 4) (pe_un un_neg pe_int) (fun _ _ => rfl)))
          (blkOk_by (N := NOw) (sc := defScope sLOwn) (by decide +kernel)) (fun _ _ _ _ _ => pg_name (i := 5) scOw.nd rfl (Or.inl rfl)) (fun _ _ _ _ _ => pts_nil) (fun _ _ _ _ _ => pe_tup (pa_cons (pv 5) (pa_cons pe_int pa_nil)))) pa_nil)) pa_nil))
        (pe_lst pa_nil)))), ?_⟩
    have ln : xs.length ≤ 50 := by rw [al.1]; exact hsm.1
    refine ⟨_, rfl, a, rfl, ⟨_, hxs⟩, fun D hD => ?_⟩
    have w1 : Go T H (upd H D (.lst [])) := go_upd tk hD
    have hDf : Fresh H D := fresh_none hD
    have hx1 := w1.seq hxs
    have al1 := al.imp fun _ _ h => h.go w1
    have hst : ∀ {G : Hp}, GoE T [D] (upd H D (.lst [])) G → SqL K G a xs := fun {G} g => (GoE.news (w1) g fun b hb => by rw [List.mem_singleton.mp hb]; exact hDf).seq hxs
    refine lc_list (xs := xs) (fun i G => GoE T [D] (upd H D (.lst [])) G ∧ ∃ acc, G D = some (.lst acc) ∧ All2 (LstAt H) acc (rdyOf (ow.take i) p)) ⟨GoE.refl w1.2, [], upd_same, All2.nil⟩ (fun i G _ h => hst h.1) (fun i x G hix h => ?_) (fun G h => ?_)
    · obtain ⟨g, acc, eA, aa⟩ := h
      obtain ⟨q, hq, t, u, rfl, e1, e2⟩ := al.at hix
      have gg : Go T H G := GoE.news w1 g fun b hb => by rw [List.mem_singleton.mp hb]; exact hDf
      have hqs := hsm.2 q (List.mem_of_getElem? hq)
      refine ⟨t, _, rfl, SqT.of (gg.t _ _ e1), rfl, _, _, rfl, _, _, rfl, rfl, rfl, _, rfl, _, rfl, q.1, p, rfl, hqs.1, by decide, hp, g.2, fun G2 g2 => ⟨_, rfl, ?_⟩⟩
      have eA2 := g2.at eA
      have g12 := g.trans (Go.any g2)
      rw [rdyOf_snoc hq]
      by_cases z : fitS q.1 p = true
      · rw [if_pos z]
        refine (if_pos z).mpr ⟨_, rfl, acc, eA2, ?_, g12.trans (go_set g12.2 eA2 mu_lst (by simp)), _, upd_same, aa.snoc ⟨u, rfl, e2⟩⟩
        rw [aa.1, sizeLine_eq]
        unfold rdyOf
        rw [List.length_map]
        have h1 := List.length_filter_le (fun r : Str × List Str => fitS r.1 p) (ow.take i)
        rw [List.length_take] at h1
        have := hsm.1
        omega
      · rw [if_neg z, List.append_nil]
        exact (if_neg z).mpr ⟨g12, acc, eA2, aa⟩
    obtain ⟨g, acc, eA, aa⟩ := h
    rw [List.take_of_length_le (Nat.le_of_eq al.1.symm)] at aa
    have gG : Go T H G := GoE.news w1 g fun b hb => by rw [List.mem_singleton.mp hb]; exact hDf
    have aG : All2 (LstAt G) acc (rdyOf ow p) := aa.imp fun v ns h => by
      obtain ⟨t, e1, e2⟩ := h
      exact ⟨t, e1, gG.at e2⟩
    have hrd : ∀ ns ∈ rdyOf ow p, ns.length ≤ 30 ∧ ∀ n ∈ ns, okS n := fun ns h => by
      obtain ⟨q, hq, e⟩ := List.mem_map.mp h
      have hq := (List.mem_filter.mp hq).1
      rw [← e]
      exact ⟨(hsm.2 q hq).2, hno q hq⟩
    refine ⟨_, rfl, by decide, fun e0 he0 => ?_⟩
    have w2 : Go T G (upd G e0 (.lst [])) := go_upd gG.2 he0
    have eA2 := w2.at eA
    have ee : upd G e0 (.lst []) e0 = some (.lst []) := upd_same
    have aG2 : All2 (LstAt (upd G e0 (.lst []))) acc (rdyOf ow p) := aG.imp fun v ns h => by
      obtain ⟨t, e1, e2⟩ := h
      exact ⟨t, e1, w2.at e2⟩
    have g2 := gG.trans w2
    generalize upd G e0 (.lst []) = G2 at w2 eA2 ee aG2 g2 ⊢
    have plr : Pl 2 (.list ((rdyOf ow p).map fun ns => PyData.list (ns.map .str))) = true := by
      show ((rdyOf ow p).map fun ns => PyData.list (ns.map .str)).all (Pl 1) = true
      rw [List.all_eq_true]
      intro d hd
      obtain ⟨ns, hns, rfl⟩ := List.mem_map.mp hd
      exact pl_strs (hrd ns hns).2
    refine ⟨_, _, .lst (SqL.of eA2) (dp_all2 (g := fun ns => PyData.list (ns.map .str)) (fun x y h => by obtain ⟨t, rfl, et⟩ := h; exact .lst (SqL.of et) (dp_strs _)) _ _ aG2), .lst (SqL.of ee) .nil, pl_shaped plr (by decide), by decide, _, rfl, ?_⟩
    have ev : PyData.eqv (.list ((rdyOf ow p).map fun ns => PyData.list (ns.map .str))) (.list []) = decide (rdyOf ow p = []) := by
      rw [Bool.eq_iff_iff, decide_eq_true_iff, pl_eqv 2 _ _ plr rfl, PyData.list.injEq, List.map_eq_nil_iff]
    rw [ev]
    have hfn : fnd ow p = ((rdyOf ow p).getLast?).getD [] := fnd_last p ow
    by_cases hn : rdyOf ow p = []
    · refine iteF' (by rw [decide_eq_true hn]; decide) ⟨by decide, fun l hl => k1 _ l (g2.trans (go_upd g2.2 hl)) (fresh_of g2 hl) ?_⟩
      rw [upd_same]
      unfold own
      rw [hfn, hn]
      show _ = some (HO.lst ((so []).map V.str))
      rw [so_nil]
      rfl
    · refine (if_pos (by rw [decide_eq_false hn]; rfl)).mpr ?_
      -- the last one
      obtain ⟨k, hk⟩ : ∃ k, (rdyOf ow p).length = k + 1 := ⟨(rdyOf ow p).length - 1, by have := List.length_pos_iff.mpr hn; omega⟩
      obtain ⟨ns, hns⟩ : ∃ ns, (rdyOf ow p)[k]? = some ns := ⟨_, List.getElem?_eq_getElem (by omega)⟩
      have hlast : (rdyOf ow p).getLast? = some ns := by
        rw [List.getLast?_eq_getElem?, hk]
        exact hns
      have hfn2 : fnd ow p = ns := by rw [hfn, hlast]; rfl
      have hal : acc.length = k + 1 := aG2.1.trans hk
      obtain ⟨x, hx⟩ : ∃ x, acc[k]? = some x := ⟨_, List.getElem?_eq_getElem (by omega)⟩
      obtain ⟨t, rfl, et⟩ := aG2.2 k x ns hx hns
      have eat : atI acc (-1) = some (.ref t) := by
        unfold atI ixN
        rw [hal, if_neg (by decide), if_pos (by omega)]
        show acc[((-1 : Int) + ((k + 1 : Nat) : Int)).toNat]? = _
        have : ((-1 : Int) + ((k + 1 : Nat) : Int)).toNat = k := by omega
        rw [this]
        exact hx
      have hn30 := (hrd ns (List.mem_of_getElem? hns)).1
      refine ⟨_, rfl, _, rfl, D, acc, _, _, rfl, rfl, SqL.of eA2, eat, t, rfl, ⟨_, SqL.of et⟩, fun D3 hD3 => ?_⟩
      have n3 : t ≠ D3 := ne_of_none et hD3
      have w3 : Go T G2 (upd G2 D3 (.lst [])) := go_upd g2.2 hD3
      have hD3f : Fresh H D3 := fresh_of g2 hD3
      refine lc_pairs (T := T) (xs := ns) ov_l g2.2 hD3 (fun G g => g.seq (SqL.of (w3.at et)) (by simpa using n3)) (by omega) (fun x G Q' k => ⟨_, rfl, by show 2 ≤ sizeLine; decide, k⟩) fun G3 ps g3 eD3 al3 => ?_
      have g5 : Go T H G3 := GoE.news (g2.trans w3) g3 fun b hb => by rw [List.mem_singleton.mp hb]; exact hD3f
      refine ⟨D3, ps, _, rfl, SqL.of eD3, dict_paired al3, fun d hd => ?_⟩
      rw [merge_keys]
      have g6 := g5.trans (go_upd (o := .dK (keyTab (.int 1) (uniq ns))) g5.2 hd)
      have hul := uniq_len ns
      refine ⟨d, _, uniq ns, rfl, Rd.of upd_same, keyTab_keys _ _, by omega, fun ys S pm sr hS => ?_⟩
      have ey : ys = own ow p := by
        unfold own
        rw [hfn2]
        exact srt_eq pm sr
      subst ey
      exact k1 _ S (g6.trans (go_upd g6.2 hS)) (fresh_of g6 hS) upd_same
end
end R
end Text_R20
section Text_R21
set_option Elab.async false
set_option linter.all false
set_option maxRecDepth 100000
set_option maxHeartbeats 4000000
namespace R
open PySem PySem.Spec PyProof.Rows L2 Gx GxR
def spLSets (K : PySem.W.Frag) (T : Tb) : Sp := fun vs H Q _ => ∃ a ns, vs = [.ref a] ∧ SqL K H a (ns.map V.str) ∧ ns.length ≤ 8 ∧ TOk T H ∧ ∀ H' l xs, Go T H H' → H' l = some (.lst xs) → All2 (NamesAt H') xs (setsOf ns) → Q (.ref l) H'
abbrev NSt : List Str := ["names", "found", "name", "row"]
theorem scSt : FnScope NSt ["names"] (defScope sLSets) := ⟨rfl, rfl, rfl, by decide +kernel, rfl, by decide +kernel, by decide +kernel⟩
section
variable {P : Program} {w : World} {K : PySem.W.Frag} {mg : Str → Option Value} {base : Heap} {T : Tb}
theorem ok_lsets {f : Addr} {fd : FuncData} (F : Fun K "_law_sets" "_law_sets" sLSets f fd) : FnOk P w K mg base CX0 1 f fd ["names"] (spLSets K T) := by
  refine F.ok scSt (fun vs H Q E h => ?_) (fun cdv A0 outer s H vs Q E hr h => ?_)
  · obtain ⟨a, ns, rfl, _⟩ := h
    rfl
  · obtain ⟨a, ns, rfl, hns, hl8, tk, k1⟩ := h
    refine ⟨_, pss_cons (ps_set (i := 1) scSt.nd rfl (Or.inl rfl) (pe_lst (pa_cons (pe_tup pa_nil) pa_nil)))
      (pss_cons (ps_for PassesOwn.never rfl (pi_list (pv 0)) (pg_name (i := 2) scSt.nd rfl (Or.inr rfl))
        (pss_one (ps_set (i := 1) scSt.nd rfl (Or.inl rfl) (pe_op op_cat (pv 1) (pe_lc (own := [("row", 3)]) (g := gName 3) (tt := tYes) rfl scSt.nd (pi_list (pv 1)) (blkOk_by (N := NSt) (sc := defScope sLSets) (by decide +kernel))
          (fun _ _ _ _ _ => pg_name (i := 3) scSt.nd rfl (Or.inl rfl) (Or.inr rfl)) (fun _ _ _ _ _ => pts_nil) (fun _ _ _ _ _ => pe_op (op_catAK K rfl) (pv 3) (pe_tup (pa_cons (pv 2) pa_nil))))))))
      (pss_one (ps_ret (pv 1)))), ?_⟩
    refine ⟨by decide, fun t0 ht0 => ⟨by show 1 ≤ sizeLine; decide, fun L0 hL0 => ?_⟩⟩
    have w5a : Go T H (upd H t0 (.tup [])) := go_upd tk ht0
    have w5 : Go T H (upd (upd H t0 (.tup [])) L0 (.lst [.ref t0])) := w5a.trans (go_upd w5a.2 hL0)
    have et0 : upd (upd H t0 (.tup [])) L0 (.lst [.ref t0]) t0 = some (.tup []) := by
      rw [upd_ne (show t0 ≠ L0 from fun z => by rw [← z, upd_same] at hL0; cases hL0), upd_same]
    have eL5 : upd (upd H t0 (.tup [])) L0 (.lst [.ref t0]) L0 = some (.lst [.ref t0]) := upd_same
    generalize upd (upd H t0 (.tup [])) L0 (.lst [.ref t0]) = G5 at w5 et0 eL5 ⊢
    refine ⟨_, rfl, a, rfl, ⟨_, w5.seq hns⟩, for_list (xs := ns.map V.str) (fun i σ G => Go T H G ∧ ∃ Lf v2 xs, σ = [some (.ref a), some (.ref Lf), v2, none] ∧ G Lf = some (.lst xs) ∧ All2 (NamesAt G) xs (setsOf (ns.take i))) ?_ ?_ ?_ ?_⟩
    · exact ⟨w5, L0, none, _, rfl, eL5, All2.nil.snoc ⟨t0, rfl, et0⟩⟩
    · intro i σ G _ h
      exact h.1.seq hns
    · intro i x σ G hix h
      obtain ⟨g, Lf, v2, xs, rfl, eL, ax⟩ := h
      obtain ⟨n, hn, rfl⟩ := str_at hix
      have hxl : xs.length ≤ 256 := by
        rw [ax.1]
        refine sets_small ?_
        rw [List.length_take]
        omega
      refine ⟨_, rfl, _, rfl, Lf, rfl, ⟨_, SqL.of eL⟩, fun D7 hD7 => ?_⟩
      have nL7 : Lf ≠ D7 := ne_of_none eL hD7
      have w7 : Go T G (upd G D7 (.lst [])) := go_upd g.2 hD7
      have hD7f : Fresh G D7 := fresh_none hD7
      have eL7 := w7.at eL
      have ax7 := ax.imp fun _ _ h => NamesAt.ext h w7.t
      refine lc_list (xs := xs) (fun j G' => GoE T [D7] (upd G D7 (.lst [])) G' ∧ ∃ acc, G' D7 = some (.lst acc) ∧ All2 (NamesAt G') acc (((setsOf (ns.take i)).take j).map (· ++ [n]))) ⟨GoE.refl w7.2, [], upd_same, All2.nil⟩ (fun j G' _ h => h.1.seq (SqL.of eL7) (by simpa using nL7)) (fun j x G' hx h => ?_) (fun G' h => ?_)
      · obtain ⟨g', acc, eD7, aa⟩ := h
        obtain ⟨row, hrow, t1, rfl, e1⟩ := ax7.at hx
        have e1 := g'.t _ _ e1
        have hrl : row.length ≤ 8 := by
          have h1 := sets_row (List.mem_of_getElem? hrow)
          rw [List.length_take] at h1
          omega
        refine ⟨rfl, _, rfl, _, rfl, by show 1 ≤ sizeLine; decide, fun v hv => ?_⟩
        have w8 : Go T G' (upd G' v (.tup [.str n])) := go_upd g'.2 hv
        have ev : upd G' v (.tup [.str n]) v = some (.tup [.str n]) := upd_same
        have e18 := w8.t _ _ e1
        have eD8 := w8.at eD7
        have aa8 := aa.imp fun _ _ h => NamesAt.ext h w8.t
        have g8 := g'.trans (Go.any w8)
        generalize upd G' v (.tup [.str n]) = G8 at w8 ev e18 eD8 aa8 g8 ⊢
        have fin : ∀ (p : Addr) (G9 : Hp), Go T G8 G9 → G9 p = some (.tup ((row ++ [n]).map V.str)) → ∃ acc, G9 D7 = some (.lst acc) ∧ acc.length < sizeLine ∧ (GoE T [D7] (upd G D7 (.lst [])) (upd G9 D7 (.lst (acc ++ [.ref p]))) ∧ ∃ acc2, upd G9 D7 (.lst (acc ++ [.ref p])) D7 = some (.lst acc2) ∧ All2 (NamesAt (upd G9 D7 (.lst (acc ++ [.ref p])))) acc2 (((setsOf (ns.take i)).take (j + 1)).map (· ++ [n]))) := fun p G9 w9 ep => by
          have eD9 := w9.at eD8
          have w10 : GoE T [D7] G9 (upd G9 D7 (.lst (acc ++ [.ref p]))) := go_set w9.2 eD9 mu_lst (by simp)
          refine ⟨acc, eD9, ?_, (g8.trans (Go.any w9)).trans w10, _, upd_same, ?_⟩
          · rw [aa.1, List.length_map, List.length_take, sizeLine_eq]
            have := ax.1
            omega
          · rw [take_snoc hrow, List.map_append]
            exact (aa8.imp fun _ _ h => (NamesAt.ext h w9.t).ext w10.t).snoc ⟨p, rfl, w10.t _ _ ep⟩
        refine ⟨t1, v, row.map V.str, [.str n], rfl, rfl, SqT.of e18, SqT.of ev, by rw [List.length_map, sizeLine_eq]; show row.length + 1 ≤ _; omega, fun z => ?_, fun _ z => (by cases z), fun _ _ p hp => ?_⟩
        · refine fin v G8 (GoE.refl g8.2) ?_
          have z : row = [] := List.map_eq_nil_iff.mp z
          rw [z]
          exact ev
        · refine fin p _ (go_upd g8.2 hp) ?_
          rw [upd_same, List.map_append]
          rfl
      · obtain ⟨g', acc, eD7, aa⟩ := h
        rw [List.take_of_length_le (Nat.le_of_eq ax.1.symm)] at aa
        have eLr := g'.at eL7 (by simpa using nL7)
        have gr : Go T G G' := GoE.news w7 g' fun b hb => by rw [List.mem_singleton.mp hb]; exact hD7f
        have axr := ax7.imp fun _ _ h => NamesAt.ext h g'.t
        refine ⟨Lf, D7, xs, acc, rfl, rfl, eLr, eD7, ?_, fun p hp => ?_⟩
        · rw [aa.1, List.length_map, ← ax.1, sizeLine_eq]
          omega
        · have w8 : Go T G' (upd G' p (.lst (xs ++ acc))) := go_upd gr.2 hp
          refine ⟨(g.trans gr).trans w8, p, _, _, rfl, upd_same, ?_⟩
          rw [sets_snoc hn]
          exact (axr.imp fun _ _ h => NamesAt.ext h w8.t).append (aa.imp fun _ _ h => NamesAt.ext h w8.t)
    · intro σ G h
      obtain ⟨g, Lf, v2, xs, rfl, eL, ax⟩ := h
      rw [List.length_map, List.take_length] at ax
      exact ⟨_, rfl, k1 G Lf xs g eL ax⟩
end
/-! files that are drawn -/
def pth5 : List Str := ["a", "d/x", "d/y", "k.o", "e/f/g"]
theorem pth5_nd : pth5.Nodup := by decide +kernel
def FOk (A : Files) : Prop := (A.map (·.1)).Sublist pth5 ∧ ∀ q ∈ A, q.2.length ≤ 4 ∧ okS q.2
theorem pth5_ok : ∀ p ∈ pth5, p.cps.toList.length ≤ 1000 ∧ PyData.strOk p = true := by decide +kernel
theorem FOk.len {A : Files} (h : FOk A) : A.length ≤ 5 := by
  have := h.1.length_le
  rw [List.length_map] at this
  exact this
theorem FOk.ok {A : Files} (h : FOk A) : filesOk A := ⟨by have := h.len; omega, fun q hq => by
  have := pth5_ok q.1 (h.1.subset (List.mem_map.mpr ⟨q, hq, rfl⟩))
  exact ⟨this.1, this.2, (h.2 q hq).2⟩⟩
theorem merge_fk {A : Files} (h : (A.map (·.1)).Nodup) : mergeK [] (fk A) = fk A := by
  have : ∀ (A B : Files), ((B ++ A).map (·.1)).Nodup → mergeK (fk B) (fk A) = fk (B ++ A) := by
    intro A
    induction A with
    | nil => intro B _; rw [List.append_nil]; rfl
    | cons q A ih =>
      intro B hn
      have hq : (Sum.inr q.1 : Key) ∉ (fk B).map (·.1) := fun hm => by
        unfold fk at hm
        rw [List.map_map] at hm
        obtain ⟨r, hr, e⟩ := List.mem_map.mp hm
        have e : r.1 = q.1 := Sum.inr.inj e
        rw [List.map_append, List.map_cons] at hn
        exact (List.nodup_append.mp hn).2.2 r.1 (List.mem_map.mpr ⟨r, hr, rfl⟩) q.1 List.mem_cons_self e
      show mergeK (putK (fk B) (Sum.inr q.1) (.str q.2)) (fk A) = _
      rw [put_new _ _ _ hq]
      have := ih (B ++ [q]) (by rw [List.append_assoc]; exact hn)
      rw [List.append_assoc] at this
      rw [← show fk (B ++ [q]) = fk B ++ [((Sum.inr q.1 : Key), V.str q.2)] by unfold fk; rw [List.map_append]; rfl]
      exact this
  exact this A [] h
theorem cut_ok {r : Int} (h0 : 0 ≤ r) (h1 : r < 5) : (cutS ("xyzw" : Str) none (some r)).length ≤ 4 ∧ okS (cutS ("xyzw" : Str) none (some r)) := by
  unfold okS
  have : r = 0 ∨ r = 1 ∨ r = 2 ∨ r = 3 ∨ r = 4 := by omega
  rcases this with rfl | rfl | rfl | rfl | rfl <;> decide +kernel
def FlAt (H : Hp) (p : Addr) (q : Str × Str) : Prop := H p = some (.tup [.str q.1, .str q.2])
def spLFiles (T : Tb) : Sp := fun vs H Q _ => ∃ d, vs = [.ref d] ∧ DiceAt H d ∧ TOk T H ∧ ∀ H' l A, GoE T [d] H H' → DiceAt H' d → H' l = some (.dK (fk A)) → FOk A → Q (.ref l) H'
abbrev NFl : List Str := ["dice", "path"]
theorem scFl : FnScope NFl ["dice"] (defScope sLFiles) := ⟨rfl, rfl, rfl, by decide +kernel, rfl, by decide +kernel, by decide +kernel⟩
section
variable {P : Program} {w : World} {K : PySem.W.Frag} {mg : Str → Option Value} {base : Heap} {T : Tb}
theorem ok_lfiles {f fR : Addr} {fd fdR : FuncData} (F : Fun K "_law_files" "_law_files" sLFiles f fd) (X : Tx K mg) (GR : FnOk P w K mg base CX0 1 fR fdR ["dice", "many"] spRoll) (mR : mg "_law_roll" = some (.ref fR))
    (kR : PySem.W.keepIn K (.ref fR) = true) (bR : Binds K fdR ["dice", "many"] []) : FnOk P w K mg base CX0 2 f fd ["dice"] (spLFiles T) := by
  refine F.ok scFl (fun vs H Q E h => ?_) (fun cdv A0 outer s H vs Q E hr h => ?_)
  · obtain ⟨d, rfl, _⟩ := h
    rfl
  · obtain ⟨d, rfl, hd, tk, k1⟩ := h
    refine ⟨_, pss_one (ps_ret (pe_callTy (call_dictP rfl) (by rfl) X.dict (by decide +kernel) (pa_cons (pe_lc (own := [("path", 1)]) (g := gName 1) rfl scFl.nd (pi_list (pe_lst (pa_cons pe_str (pa_cons pe_str (pa_cons pe_str (pa_cons pe_str (pa_cons pe_str pa_nil)))))))
        (blkOk_by (N := NFl) (sc := defScope sLFiles) (by decide +kernel)) (fun _ _ _ _ _ => pg_name (i := 1) scFl.nd rfl (Or.inl rfl))
        (fun _ _ _ _ _ => pts_one (pt_cmpR op_eq (pe_call GR hr rfl mR kR bR .nil pass0 (pa_cons (pv 0) (pa_cons pe_int pa_nil))) pe_int (nomark _)))
        (fun _ _ _ _ _ => pe_tup (pa_cons (pv 1) (pa_cons (pe_slice sl_str pe_str po_none (po_some (pe_call GR hr rfl mR kR bR .nil pass0 (pa_cons (pv 0) (pa_cons pe_int pa_nil))))) pa_nil)))) pa_nil))), ?_⟩
    refine ⟨by show 5 ≤ sizeLine; decide, fun Lp hLp => ⟨Lp, rfl, ⟨_, SqL.of upd_same⟩, fun D hD => ?_⟩⟩
    have w1 : Go T H (upd H Lp (.lst (pth5.map V.str))) := go_upd tk hLp
    have nLd : Lp ≠ d := fun e => by
      obtain ⟨_, e2, _⟩ := hd
      rw [← e, hLp] at e2
      cases e2
    have eL1 : upd H Lp (.lst (pth5.map V.str)) Lp = some (.lst (pth5.map V.str)) := upd_same
    have hd1 : DiceAt (upd H Lp (.lst (pth5.map V.str))) d := by
      obtain ⟨dv, e, dd⟩ := hd
      exact ⟨dv, w1.at e, dd⟩
    have hLf : Fresh H Lp := fresh_none hLp
    show ∃ W : Nat → Nat → Hp → Prop, (∃ m, W 0 m (upd (upd H Lp (.lst (pth5.map V.str))) D (.lst []))) ∧ _
    have hD : upd H Lp (.lst (pth5.map V.str)) D = none := hD
    generalize upd H Lp (.lst (pth5.map V.str)) = H1 at w1 eL1 hd1 hD ⊢
    have nLD : Lp ≠ D := ne_of_none eL1 hD
    have ndD : d ≠ D := by
      obtain ⟨dv, e, _⟩ := hd1
      exact ne_of_none e hD
    have w2 : Go T H1 (upd H1 D (.lst [])) := go_upd w1.2 hD
    have hDf : Fresh H D := fresh_of w1 hD
    have eL2 := w2.at eL1
    have hd2 : DiceAt (upd H1 D (.lst [])) d := by
      obtain ⟨dv, e, dd⟩ := hd1
      exact ⟨dv, w2.at e, dd⟩
    have tk2 := w2.2
    have dice : ∀ {G : Hp} {xs : List V}, GoE T [D, d] (upd H1 D (.lst [])) G → DiceAt G d → DiceV xs → GoE T [D, d] (upd H1 D (.lst [])) (upd G d (.lst xs)) ∧ DiceAt (upd G d (.lst xs)) d := fun {G xs} g hg dv => by
      obtain ⟨dv0, e, _⟩ := hg
      exact ⟨g.trans (go_set g.2 e mu_lst (by simp)), _, upd_same, dv⟩
    refine lc_list (xs := pth5.map V.str) (fun i G => GoE T [D, d] (upd H1 D (.lst [])) G ∧ DiceAt G d ∧ ∃ ps A, G D = some (.lst (ps.map V.ref)) ∧ All2 (FlAt G) ps A ∧ (A.map (·.1)).Sublist (pth5.take i) ∧ ∀ q ∈ A, q.2.length ≤ 4 ∧ okS q.2) ⟨GoE.refl w2.2, hd2, [], [], upd_same, All2.nil, List.Sublist.refl _, fun q hq => by simp at hq⟩ (fun i G _ h => h.1.seq (SqL.of eL2) (by simp [nLD, nLd])) (fun i x G hix h => ?_) (fun G h => ?_)
    · obtain ⟨g, hg, ps, A, eD, al, sub, ok⟩ := h
      obtain ⟨y, hy, rfl⟩ := str_at hix
      have hpl : ps.length ≤ 5 := by
        rw [al.1]
        have h1 := sub.length_le
        rw [List.length_map, List.length_take] at h1
        have : pth5.length = 5 := rfl
        omega
      refine ⟨rfl, _, rfl, d, 2, rfl, by decide, by decide, hg, fun r1 xs1 _ _ dv1 => ⟨rfl, _, rfl, ?_⟩⟩
      obtain ⟨g1, hg1⟩ := dice g hg dv1
      have eD1 : upd G d (.lst xs1) D = some (.lst (ps.map V.ref)) := by rw [upd_ne (Ne.symm ndD)]; exact eD
      have al1 : All2 (FlAt (upd G d (.lst xs1))) ps A := al.imp fun p q e => by
        show upd G d (.lst xs1) p = _
        obtain ⟨dv0, ed, _⟩ := hg
        rw [upd_ne (ne_of (show G p = some (.tup [.str q.1, .str q.2]) from e) ed (by intro z; cases z))]
        exact e
      refine ite2 (fun _ => ⟨_, rfl, _, rfl, d, 5, rfl, by decide, by decide, hg1, fun r2 xs2 h0 h5 dv2 => ⟨_, rfl, _, rfl, by decide, by show 2 ≤ sizeLine; decide, fun p hp => ?_⟩⟩) (fun _ => ?_)
      · obtain ⟨g2, hg2⟩ := dice g1 hg1 dv2
        have eD2 : upd (upd G d (.lst xs1)) d (.lst xs2) D = some (.lst (ps.map V.ref)) := by rw [upd_ne (Ne.symm ndD)]; exact eD1
        have al2 : All2 (FlAt (upd (upd G d (.lst xs1)) d (.lst xs2))) ps A := al1.imp fun p q e => by
          show upd (upd G d (.lst xs1)) d (.lst xs2) p = _
          obtain ⟨dv0, ed, _⟩ := hg1
          rw [upd_ne (ne_of (show upd G d (.lst xs1) p = some (.tup [.str q.1, .str q.2]) from e) ed (by intro z; cases z))]
          exact e
        generalize upd (upd G d (.lst xs1)) d (.lst xs2) = G2 at g2 hg2 eD2 al2 hp ⊢
        have w3 : GoE T [D, d] G2 (upd G2 p (.tup [.str y, .str (cutS ("xyzw" : Str) none (some r2))])) := go_upd g2.2 hp
        have eD3 : upd G2 p (.tup [.str y, .str (cutS ("xyzw" : Str) none (some r2))]) D = some (.lst (ps.map V.ref)) := by rw [upd_ne (ne_of_none eD2 hp)]; exact eD2
        have ep : upd G2 p (.tup [.str y, .str (cutS ("xyzw" : Str) none (some r2))]) p = some (.tup [.str y, .str (cutS ("xyzw" : Str) none (some r2))]) := upd_same
        have hg3 : DiceAt (upd G2 p (.tup [.str y, .str (cutS ("xyzw" : Str) none (some r2))])) d := by
          obtain ⟨dv, e, dd⟩ := hg2
          exact ⟨dv, by rw [upd_ne (ne_of_none e hp)]; exact e, dd⟩
        have g3 := g2.trans w3
        generalize upd G2 p (.tup [.str y, .str (cutS ("xyzw" : Str) none (some r2))]) = G3 at w3 eD3 ep hg3 g3 ⊢
        have w4 : GoE T [D, d] G3 (upd G3 D (.lst (ps.map V.ref ++ [.ref p]))) := go_set g3.2 eD3 mu_lst (by simp)
        refine ⟨_, eD3, by rw [List.length_map, sizeLine_eq]; omega, g3.trans w4, ?_, ps ++ [p], A ++ [(y, cutS ("xyzw" : Str) none (some r2))], by rw [upd_same, List.map_append]; rfl, ?_, ?_, ?_⟩
        · obtain ⟨dv, e, dd⟩ := hg3
          exact ⟨dv, by rw [upd_ne ndD]; exact e, dd⟩
        · exact (al2.imp fun q r e => w4.t _ _ (w3.t _ _ e)).snoc (w4.t _ _ ep)
        · rw [take_snoc hy, List.map_append]
          exact sub.append (List.Sublist.refl _)
        · intro q hq
          rcases List.mem_append.mp hq with m | m
          · exact ok q m
          · rw [List.mem_singleton.mp m]
            exact cut_ok h0 h5
      · refine ⟨g1, hg1, ps, A, eD1, al1, ?_, ok⟩
        rw [take_snoc hy]
        exact sub.trans (List.sublist_append_left _ _)
    · obtain ⟨g, hg, ps, A, eD, al, sub, ok⟩ := h
      rw [List.length_map, List.take_length] at sub
      have gG : GoE T [d] H G := by
        refine ⟨fun b o e nt m => g.1 b o (w2.1 b o (w1.1 b o e nt (.inl (by simp))) nt (.inl (by simp))) nt ?_, g.2⟩
        rcases m with m | m
        · refine .inl ?_
          have : b ≠ D := fun z => by
            rw [z] at e
            obtain ⟨ps, e2⟩ := hDf o e
            exact nt ps e2
          simp only [List.mem_cons, List.not_mem_nil, or_false, not_or] at m ⊢
          exact ⟨this, m⟩
        · exact .inr m
      refine ⟨D, ps, fk A, rfl, SqL.of eD, paired_of ⟨by rw [fk_len]; exact al.1, fun i p kv h1 h2 => ?_⟩, fun l hl => ?_⟩
      · unfold fk at h2
        rw [List.getElem?_map] at h2
        cases e : A[i]? with
        | none => rw [e] at h2; cases h2
        | some q =>
          rw [e] at h2
          obtain rfl := Option.some.inj h2
          exact SqT.of (al.2 i p q h1 e)
      · rw [merge_fk (sub.nodup pth5_nd)]
        have w3 : Go T G (upd G l (.dK (fk A))) := go_upd g.2 hl
        obtain ⟨dv, e, dd⟩ := hg
        exact k1 _ l A (gG.trans (Go.any w3)) ⟨dv, w3.at e, dd⟩ upd_same ⟨sub, ok⟩
end
end R
end Text_R21
section Text_R22
set_option Elab.async false
set_option linter.all false
set_option maxRecDepth 100000
set_option maxHeartbeats 4000000
namespace L2
theorem PE.weak {X : Cx} {e : PySem.Expr} {t u : TE} (h : PE X e t) (i : ∀ σ H Q, u σ H Q → t σ H Q) : PE X e u := ⟨fun pins s σ H Q I q => h.run pins s σ H Q I (i _ _ _ q)⟩
end L2
namespace R
open PySem PySem.Spec PyProof.Rows L2 Gx GxR LamY LamZ
/-- where the methods stand -/
structure MD where
  fI : Addr
  fO : Addr
  fG : Addr
  fL : Addr
  fW : Addr
  fN : Addr
  fS : Addr
  fU : Addr
  fE : Addr
  dI : FuncData
  dO : FuncData
  dG : FuncData
  dL : FuncData
  dW : FuncData
  dN : FuncData
  dS : FuncData
  dU : FuncData
  dE : FuncData
/-- the methods with their promises -/
structure Ms (P : Program) (w : World) (K : PySem.W.Frag) (mg : Str → Option Value) (base : Heap) (T : Tb) (C CR CS : Addr) (M : MD) : Prop where
  L : Cl K mg C
  X : Er K mg CR CS
  Y : Tx K mg
  mm : Mk K C M.fI
  GI : FnOk P w K mg base CX0 1 M.fI M.dI ["self"] (spInit C T)
  bI : Binds K M.dI ["self"] []
  GO : FnOk P w K mg base (L2.CX P w) 3 M.fO M.dO ["self", "rows"] (spOwn K C T CR)
  mO : Meth K C "own" M.fO
  bO : Binds K M.dO ["self", "rows"] []
  GG : FnOk P w K mg base (L2.CX P w) 1 M.fG M.dG ["self", "name", "many"] (spGuard C T CR)
  mG : Meth K C "guard" M.fG
  bG : Binds K M.dG ["self", "name", "many"] []
  GL : FnOk P w K mg base (L2.CX P w) 1 M.fL M.dL ["self", "most_signs", "heads", "barred"] (spLimit K C T CR)
  mL : Meth K C "limit" M.fL
  bL : Binds K M.dL ["self", "most_signs", "heads", "barred"] []
  GW : FnOk P w K mg base CX0 19 M.fW M.dW ["self", "path"] (spOwners C T)
  mW : Meth K C "owners_of" M.fW
  bW : Binds K M.dW ["self", "path"] []
  GN : FnOk P w K mg base CX0 20 M.fN M.dN ["self", "one", "other"] (spNeed C T)
  mN : Meth K C "needed" M.fN
  bN : Binds K M.dN ["self", "one", "other"] []
  GS : FnOk P w K mg base CX0 21 M.fS M.dS ["self", "name", "one", "other", "who", "agreed"] (spLacks K C T)
  mS : Meth K C "lacks" M.fS
  bS : Binds K M.dS ["self", "name", "one", "other", "who", "agreed"] []
  GU : FnOk P w K mg base CX0 20 M.fU M.dU ["self", "one", "other", "words"] (spFaults C T)
  mU : Meth K C "faults" M.fU
  bU : Binds K M.dU ["self", "one", "other", "words"] []
  GE : FnOk P w K mg base (L2.CX P w) 21 M.fE M.dE ["self", "one", "other", "who"] (spFew C T CR)
  mE : Meth K C "fewest_who" M.fE
  bE : Binds K M.dE ["self", "one", "other", "who"] []
/-- the lambdas that _law_plain lists -/
def lams : List Expr := match (defBody sPlain).getD 3 noS with
  | .Assign _ (.List es _) _ => es
  | _ => []
def lamAt (j : Nat) : Expr := lams.getD j (.Constant .none 0 ⟨0, 0, 0, 0⟩)
def lamA (j : Nat) : Arguments := match lamAt j with
  | .Lambda p _ _ _ => p
  | _ => ⟨[], [], none, [], [], none, []⟩
def lamB (j : Nat) : Expr := match lamAt j with
  | .Lambda _ b _ _ => b
  | e => e
def lamSc (j : Nat) : Scope := match lamAt j with
  | .Lambda _ _ s _ => s
  | _ => defScope sPlain
theorem lams_len : lams.length = 8 := by decide +kernel
/-- eight of them -/
theorem all8 {p : Nat → Prop} (h0 : p 0) (h1 : p 1) (h2 : p 2) (h3 : p 3) (h4 : p 4) (h5 : p 5) (h6 : p 6) (h7 : p 7) (j : Nat) (h : j < 8) : p j := by
  rcases j with _ | _ | _ | _ | _ | _ | _ | _ | j
  · exact h0
  · exact h1
  · exact h2
  · exact h3
  · exact h4
  · exact h5
  · exact h6
  · exact h7
  · omega
abbrev NP : List Str := ["k", "many", "bad", "f", "rules"]
def SLam (j : Nat) : Prop := LamX.LamS (defScope sPlain) (lamSc j)
theorem slams : ∀ j, j < 8 → SLam j := all8 (p := SLam) (LamX.lamS_by (by decide +kernel)) (LamX.lamS_by (by decide +kernel)) (LamX.lamS_by (by decide +kernel)) (LamX.lamS_by (by decide +kernel)) (LamX.lamS_by (by decide +kernel)) (LamX.lamS_by (by decide +kernel)) (LamX.lamS_by (by decide +kernel)) (LamX.lamS_by (by decide +kernel))
theorem lamA0 : lamA 0 = ⟨[], [], none, [], [], none, []⟩ := by rfl
theorem lamA1 : lamA 1 = ⟨[], [], none, [], [], none, []⟩ := by rfl
theorem lamA2 : lamA 2 = ⟨[], [], none, [], [], none, []⟩ := by rfl
theorem lamA3 : lamA 3 = ⟨[], [], none, [], [], none, []⟩ := by rfl
theorem lamA4 : lamA 4 = ⟨[], [], none, [], [], none, []⟩ := by rfl
theorem lamA5 : lamA 5 = ⟨[], [], none, [], [], none, []⟩ := by rfl
theorem lamA6 : lamA 6 = ⟨[], [], none, [], [], none, []⟩ := by rfl
theorem lamA7 : lamA 7 = ⟨[], [], none, [], [], none, []⟩ := by rfl
theorem lamAs : ∀ j, j < 8 → lamA j = ⟨[], [], none, [], [], none, []⟩ := all8 (p := fun j => lamA j = ⟨[], [], none, [], [], none, []⟩) lamA0 lamA1 lamA2 lamA3 lamA4 lamA5 lamA6 lamA7
theorem bind0 (q : Str) (body : Expr) (scope : Scope) (cl : List (Str × Addr)) (pm cv ctv : Value) : bindArgs (PySem.W.kla_fn "<lambda>" q ⟨[], [], none, [], [], none, []⟩ body scope cl pm cv ctv) ⟨[], []⟩ = pure [] := by rfl
theorem bindLs (j : Nat) (hj : j < 8) (q : Str) (cl : List (Str × Addr)) (pm cv ctv : Value) : bindArgs (PySem.W.kla_fn "<lambda>" q (lamA j) (lamB j) (lamSc j) cl pm cv ctv) ⟨[], []⟩ = pure [] := by
  rw [lamAs j hj]
  exact bind0 _ _ _ _ _ _ _
/-- what each of them does: it raises -/
def tBad (C : Addr) (T : Tb) (CR : Addr) (E : XK) : TE := fun σ H _ => ∃ r d ow gs ms hs bs, σ[4]? = some (some (.ref r)) ∧ RAt C H r d ow gs ms hs bs ∧ gl gs "x" = none ∧ gs.length ≤ 1000 ∧ TOk T H ∧ ∀ H', Go T H H' → E (.ref CR) none H'
section
variable {P : Program} {w : World} {K : PySem.W.Frag} {mg : Str → Option Value} {base : Heap} {T : Tb} {C CR CS : Addr} {M : MD}
/-- the context of _law_plain -/
abbrev XP (P : Program) (w : World) (K : PySem.W.Frag) (mg : Str → Option Value) (base : Heap) (fp cp : Addr) (Ao : Around) (oo : List Env) (so : Shared) (Ho : Hp) (Eo : XK) : Cx := (cxOf CX0 P w K mg base NP "_law_plain" (defScope sPlain) fp (.ref cp) Ao oo so Ho Eo).nox
variable {fp cp f c' : Addr} {Ao A : Around} {oo outer : List Env} {so s : Shared} {Ho H : Hp} {Eo E : XK}
theorem one_row {K : PySem.W.Frag} {H : Hp} {u t a : Addr} (x n : Str) (tk : TOk T H) (hu : H u = none) (ht : upd H u (.tup [.str n]) t = none) (ha : upd (upd H u (.tup [.str n])) t (.tup [.str x, .ref u]) a = none) :
    Go T H (upd (upd (upd H u (.tup [.str n])) t (.tup [.str x, .ref u])) a (.tup [.ref t])) ∧ Sq K (upd (upd (upd H u (.tup [.str n])) t (.tup [.str x, .ref u])) a (.tup [.ref t])) a [.ref t] ∧ RowsIn K (upd (upd (upd H u (.tup [.str n])) t (.tup [.str x, .ref u])) a (.tup [.ref t])) [.ref t] [(x, [n])] := by
  have w1 : Go T H (upd H u (.tup [.str n])) := go_upd tk hu
  have w2 : Go T (upd H u (.tup [.str n])) (upd (upd H u (.tup [.str n])) t (.tup [.str x, .ref u])) := go_upd w1.2 ht
  have w3 : Go T (upd (upd H u (.tup [.str n])) t (.tup [.str x, .ref u])) (upd (upd (upd H u (.tup [.str n])) t (.tup [.str x, .ref u])) a (.tup [.ref t])) := go_upd w2.2 ha
  refine ⟨(w1.trans w2).trans w3, .inr (SqT.of upd_same), All2.nil.snoc ⟨t, u, rfl, w3.t _ _ upd_same, .inr ?_⟩⟩
  exact (w2.trans w3).t _ _ upd_same
theorem lb0 (m : Ms P w K mg base T C CR CS M) (hr : Room 21 (A.deeper (LamX.lamEnv (XP P w K mg base fp cp Ao oo so Ho Eo) (lamSc 0) s.heap.objs.size f c'))) : PE (LamX.lamCx (XP P w K mg base fp cp Ao oo so Ho Eo) A outer s H E (lamSc 0) f c') (lamB 0) (tBad C T CR E) := by
  refine L2.PE.weak (pe_meth (pv 4) m.L.cl m.mO m.GO (hr.mono (by decide)) m.bO .nil (passes_call (takes_of rfl rfl rfl rfl) (fun _ _ _ _ e => e)) (pa_cons (pe_tup (pa_cons (pe_tup (pa_cons pe_str (pa_cons (pe_tup (pa_cons pe_str pa_nil)) pa_nil))) pa_nil)) pa_nil)) fun σ H Q h => ?_
  obtain ⟨r, d, ow, gs, ms, hs, bs, e4, ra, gx, gl8, tk, k⟩ := h
  obtain ⟨⟨dx, o, hh, bb, er, _⟩, _⟩ := id ra
  refine ⟨_, e4, r, dx, _, rfl, er, look_no (by decide +kernel), by show 1 ≤ sizeLine; decide, fun u hu => ⟨by show 2 ≤ sizeLine; decide, fun t ht => ⟨by show 1 ≤ sizeLine; decide, fun a ha => ?_⟩⟩⟩
  obtain ⟨g, sq, rw1⟩ := one_row (T := T) (K := K) "" "a" tk hu ht ha
  exact ⟨r, d, a, ow, gs, ms, hs, bs, _, _, rfl, ra.ext g (by simp) (by simp), g.2, sq, rw1, by decide, fun z => absurd z (by decide +kernel), fun _ H' g' => k H' (g.trans g')⟩
theorem lb1 (m : Ms P w K mg base T C CR CS M) (hr : Room 21 (A.deeper (LamX.lamEnv (XP P w K mg base fp cp Ao oo so Ho Eo) (lamSc 1) s.heap.objs.size f c'))) : PE (LamX.lamCx (XP P w K mg base fp cp Ao oo so Ho Eo) A outer s H E (lamSc 1) f c') (lamB 1) (tBad C T CR E) := by
  refine L2.PE.weak (pe_meth (pv 4) m.L.cl m.mO m.GO (hr.mono (by decide)) m.bO .nil (passes_call (takes_of rfl rfl rfl rfl) (fun _ _ _ _ e => e)) (pa_cons (pe_tup (pa_cons (pe_tup (pa_cons pe_str (pa_cons (pe_tup (pa_cons pe_str pa_nil)) pa_nil))) pa_nil)) pa_nil)) fun σ H Q h => ?_
  obtain ⟨r, d, ow, gs, ms, hs, bs, e4, ra, gx, gl8, tk, k⟩ := h
  obtain ⟨⟨dx, o, hh, bb, er, _⟩, _⟩ := id ra
  refine ⟨_, e4, r, dx, _, rfl, er, look_no (by decide +kernel), by show 1 ≤ sizeLine; decide, fun u hu => ⟨by show 2 ≤ sizeLine; decide, fun t ht => ⟨by show 1 ≤ sizeLine; decide, fun a ha => ?_⟩⟩⟩
  obtain ⟨g, sq, rw1⟩ := one_row (T := T) (K := K) "a" "" tk hu ht ha
  exact ⟨r, d, a, ow, gs, ms, hs, bs, _, _, rfl, ra.ext g (by simp) (by simp), g.2, sq, rw1, by decide, fun z => absurd z (by decide +kernel), fun _ H' g' => k H' (g.trans g')⟩
theorem lb2 (m : Ms P w K mg base T C CR CS M) (hr : Room 21 (A.deeper (LamX.lamEnv (XP P w K mg base fp cp Ao oo so Ho Eo) (lamSc 2) s.heap.objs.size f c'))) : PE (LamX.lamCx (XP P w K mg base fp cp Ao oo so Ho Eo) A outer s H E (lamSc 2) f c') (lamB 2) (tBad C T CR E) := by
  refine L2.PE.weak (pe_meth (pv 4) m.L.cl m.mG m.GG (hr.mono (by decide)) m.bG .nil (passes_call (takes_of rfl rfl rfl rfl) (fun _ _ _ _ e => e)) (pa_cons pe_str (pa_cons pe_int pa_nil))) fun σ H Q h => ?_
  obtain ⟨r, d, ow, gs, ms, hs, bs, e4, ra, gx, gl8, tk, k⟩ := h
  obtain ⟨⟨dx, o, hh, bb, er, _⟩, _⟩ := id ra
  exact ⟨_, e4, r, dx, _, rfl, er, look_no (by decide +kernel), r, d, "", 1, ow, gs, ms, hs, bs, rfl, ra, tk, gl8, fun z => absurd z (by unfold gOkG; simp), fun _ => k H (GoE.refl tk)⟩
theorem lb3 (m : Ms P w K mg base T C CR CS M) (hr : Room 21 (A.deeper (LamX.lamEnv (XP P w K mg base fp cp Ao oo so Ho Eo) (lamSc 3) s.heap.objs.size f c'))) : PE (LamX.lamCx (XP P w K mg base fp cp Ao oo so Ho Eo) A outer s H E (lamSc 3) f c') (lamB 3) (tBad C T CR E) := by
  refine L2.PE.weak (pe_meth (pv 4) m.L.cl m.mG m.GG (hr.mono (by decide)) m.bG .nil (passes_call (takes_of rfl rfl rfl rfl) (fun _ _ _ _ e => e)) (pa_cons pe_str (pa_cons pe_int pa_nil))) fun σ H Q h => ?_
  obtain ⟨r, d, ow, gs, ms, hs, bs, e4, ra, gx, gl8, tk, k⟩ := h
  obtain ⟨⟨dx, o, hh, bb, er, _⟩, _⟩ := id ra
  exact ⟨_, e4, r, dx, _, rfl, er, look_no (by decide +kernel), r, d, "x", 0, ow, gs, ms, hs, bs, rfl, ra, tk, gl8, fun z => absurd z (by unfold gOkG; rw [gx]; simp), fun _ => k H (GoE.refl tk)⟩
theorem lb4 (m : Ms P w K mg base T C CR CS M) (hr : Room 21 (A.deeper (LamX.lamEnv (XP P w K mg base fp cp Ao oo so Ho Eo) (lamSc 4) s.heap.objs.size f c'))) : PE (LamX.lamCx (XP P w K mg base fp cp Ao oo so Ho Eo) A outer s H E (lamSc 4) f c') (lamB 4) (tBad C T CR E) := by
  refine L2.PE.weak (pe_meth (pv 4) m.L.cl m.mG m.GG (hr.mono (by decide)) m.bG .nil (passes_call (takes_of rfl rfl rfl rfl) (fun _ _ _ _ e => e)) (pa_cons pe_str (pa_cons (pe_un un_neg pe_int) pa_nil))) fun σ H Q h => ?_
  obtain ⟨r, d, ow, gs, ms, hs, bs, e4, ra, gx, gl8, tk, k⟩ := h
  obtain ⟨⟨dx, o, hh, bb, er, _⟩, _⟩ := id ra
  exact ⟨_, e4, r, dx, _, rfl, er, look_no (by decide +kernel), _, rfl, r, d, "main", (-1), ow, gs, ms, hs, bs, rfl, ra, tk, gl8, fun z => absurd z (by unfold gOkG; simp), fun _ => k H (GoE.refl tk)⟩
theorem lb5 (m : Ms P w K mg base T C CR CS M) (hr : Room 21 (A.deeper (LamX.lamEnv (XP P w K mg base fp cp Ao oo so Ho Eo) (lamSc 5) s.heap.objs.size f c'))) : PE (LamX.lamCx (XP P w K mg base fp cp Ao oo so Ho Eo) A outer s H E (lamSc 5) f c') (lamB 5) (tBad C T CR E) := by
  refine L2.PE.weak (pe_meth (pv 4) m.L.cl m.mL m.GL (hr.mono (by decide)) m.bL .nil (passes_call (takes_of rfl rfl rfl rfl) (fun _ _ _ _ e => e)) (pa_cons pe_int (pa_cons (pe_tup pa_nil) (pa_cons (pe_tup pa_nil) pa_nil)))) fun σ H Q h => ?_
  obtain ⟨r, d, ow, gs, ms, hs, bs, e4, ra, gx, gl8, tk, k⟩ := h
  obtain ⟨⟨dx, o, hh, bb, er, _⟩, _⟩ := id ra
  refine ⟨_, e4, r, dx, _, rfl, er, look_no (by decide +kernel), by show 0 ≤ sizeLine; decide, fun a ha => ⟨by show 0 ≤ sizeLine; decide, fun b hb => ?_⟩⟩
  have w1 : Go T H (upd H a (.tup (([] : List Str).map V.str))) := go_upd tk ha
  have w2 : Go T (upd H a (.tup (([] : List Str).map V.str))) (upd (upd H a (.tup (([] : List Str).map V.str))) b (.tup (([] : List Str).map V.str))) := go_upd w1.2 hb
  exact ⟨r, d, a, b, 0, ow, gs, ms, hs, bs, [], [], rfl, ra.ext (w1.trans w2) (by simp) (by simp), w2.2, .inr (w2.t _ _ upd_same), .inr upd_same, fun z => absurd z (by decide +kernel), fun _ => k _ (w1.trans w2)⟩
theorem lb6 (m : Ms P w K mg base T C CR CS M) (hr : Room 21 (A.deeper (LamX.lamEnv (XP P w K mg base fp cp Ao oo so Ho Eo) (lamSc 6) s.heap.objs.size f c'))) : PE (LamX.lamCx (XP P w K mg base fp cp Ao oo so Ho Eo) A outer s H E (lamSc 6) f c') (lamB 6) (tBad C T CR E) := by
  refine L2.PE.weak (pe_meth (pv 4) m.L.cl m.mL m.GL (hr.mono (by decide)) m.bL .nil (passes_call (takes_of rfl rfl rfl rfl) (fun _ _ _ _ e => e)) (pa_cons pe_int (pa_cons (pe_tup (pa_cons pe_str pa_nil)) (pa_cons (pe_tup pa_nil) pa_nil)))) fun σ H Q h => ?_
  obtain ⟨r, d, ow, gs, ms, hs, bs, e4, ra, gx, gl8, tk, k⟩ := h
  obtain ⟨⟨dx, o, hh, bb, er, _⟩, _⟩ := id ra
  refine ⟨_, e4, r, dx, _, rfl, er, look_no (by decide +kernel), by show 1 ≤ sizeLine; decide, fun a ha => ⟨by show 0 ≤ sizeLine; decide, fun b hb => ?_⟩⟩
  have w1 : Go T H (upd H a (.tup (([""] : List Str).map V.str))) := go_upd tk ha
  have w2 : Go T (upd H a (.tup (([""] : List Str).map V.str))) (upd (upd H a (.tup (([""] : List Str).map V.str))) b (.tup (([] : List Str).map V.str))) := go_upd w1.2 hb
  exact ⟨r, d, a, b, 1, ow, gs, ms, hs, bs, [""], [], rfl, ra.ext (w1.trans w2) (by simp) (by simp), w2.2, .inr (w2.t _ _ upd_same), .inr upd_same, fun z => absurd z (by decide +kernel), fun _ => k _ (w1.trans w2)⟩
theorem lb7 (m : Ms P w K mg base T C CR CS M) (hr : Room 21 (A.deeper (LamX.lamEnv (XP P w K mg base fp cp Ao oo so Ho Eo) (lamSc 7) s.heap.objs.size f c'))) : PE (LamX.lamCx (XP P w K mg base fp cp Ao oo so Ho Eo) A outer s H E (lamSc 7) f c') (lamB 7) (tBad C T CR E) := by
  refine L2.PE.weak (pe_meth (pv 4) m.L.cl m.mL m.GL (hr.mono (by decide)) m.bL .nil (passes_call (takes_of rfl rfl rfl rfl) (fun _ _ _ _ e => e)) (pa_cons pe_int (pa_cons (pe_tup pa_nil) (pa_cons (pe_tup (pa_cons pe_str pa_nil)) pa_nil)))) fun σ H Q h => ?_
  obtain ⟨r, d, ow, gs, ms, hs, bs, e4, ra, gx, gl8, tk, k⟩ := h
  obtain ⟨⟨dx, o, hh, bb, er, _⟩, _⟩ := id ra
  refine ⟨_, e4, r, dx, _, rfl, er, look_no (by decide +kernel), by show 0 ≤ sizeLine; decide, fun a ha => ⟨by show 1 ≤ sizeLine; decide, fun b hb => ?_⟩⟩
  have w1 : Go T H (upd H a (.tup (([] : List Str).map V.str))) := go_upd tk ha
  have w2 : Go T (upd H a (.tup (([] : List Str).map V.str))) (upd (upd H a (.tup (([] : List Str).map V.str))) b (.tup (([""] : List Str).map V.str))) := go_upd w1.2 hb
  exact ⟨r, d, a, b, 1, ow, gs, ms, hs, bs, [], [""], rfl, ra.ext (w1.trans w2) (by simp) (by simp), w2.2, .inr (w2.t _ _ upd_same), .inr upd_same, fun z => absurd z (by decide +kernel), fun _ => k _ (w1.trans w2)⟩
end
end R
end Text_R22
section Text_R23
set_option Elab.async false
set_option linter.all false
set_option maxRecDepth 100000
set_option maxHeartbeats 4000000
namespace R
open PySem PySem.Spec PyProof.Rows L2 Gx GxR LamY LamZ
theorem passN {P : Program} {w : World} {X : Cx} : Passes (L2.CX P w) X (fun _ _ _ => False) := fun _ _ _ _ _ _ _ c => by
  obtain ⟨_, _, _, _, _, _, _, _, _, _, _, _, z⟩ := c
  exact z.elim
/-- the table of lambdas of _law_plain grows -/
theorem but_p {T : Tb} {S : List Addr} {H H1 : Hp} (t : TOk T H) (b : But T.p H H1) (s : LamX.TabS H1 T.p lamP) : GoE T S H H1 := by
  have z : ∀ a, a ∈ [T.f, T.o, T.l, T.a, T.w, T.m] → a ≠ T.p := fun a m e => t.np (e ▸ m)
  have one : ∀ a, a ≠ T.p → TabG H a → TabG H1 a := fun a n ⟨ps, e, q⟩ => ⟨ps, b _ _ n e, q⟩
  have nt : ∀ c o, H c = some o → (∀ ps, o ≠ .tbl ps) → c ≠ T.p := fun c o e n q => by
    obtain ⟨ps, h, _⟩ := t.p
    rw [q, h] at e
    exact n ps (Option.some.inj e).symm
  refine ⟨fun c o e n _ => b c o (nt c o e n) e, one _ (z _ (by simp)) t.f, one _ (z _ (by simp)) t.o, one _ (z _ (by simp)) t.l, one _ (z _ (by simp)) t.a, ?_, s, ?_, t.nw, t.np, t.nm⟩
  · obtain ⟨ps, h1, h2, h3⟩ := id t.w
    refine ⟨ps, b _ _ (z _ (by simp)) h1, h2, fun pos cv hc => ?_⟩
    obtain ⟨c0, P0, e1, e2, e3, e4, e5⟩ := h3 pos cv hc
    exact ⟨c0, P0, e1, b _ _ (nt _ _ e2 codeG_ne) e2, one _ (fun q => e5 (by simp [q])) e3, e4, e5⟩
  · obtain ⟨ps, h1, h2, h3⟩ := id t.m
    refine ⟨ps, b _ _ (z _ (by simp)) h1, h2, fun pos cv hc => ?_⟩
    obtain ⟨c0, e1, e2⟩ := h3 pos cv hc
    exact ⟨c0, e1, b _ _ (nt _ _ e2 LamX.codeO_ne) e2⟩
theorem but_m {T : Tb} {S : List Addr} {H H1 : Hp} (t : TOk T H) (b : But T.m H H1) (s : LamX.TabS H1 T.m lamM) : GoE T S H H1 := by
  have z : ∀ a, a ∈ [T.f, T.o, T.l, T.a, T.w, T.p] → a ≠ T.m := fun a m e => t.nm (e ▸ m)
  have one : ∀ a, a ≠ T.m → TabG H a → TabG H1 a := fun a n ⟨ps, e, q⟩ => ⟨ps, b _ _ n e, q⟩
  have nt : ∀ c o, H c = some o → (∀ ps, o ≠ .tbl ps) → c ≠ T.m := fun c o e n q => by
    obtain ⟨ps, h, _⟩ := t.m
    rw [q, h] at e
    exact n ps (Option.some.inj e).symm
  refine ⟨fun c o e n _ => b c o (nt c o e n) e, one _ (z _ (by simp)) t.f, one _ (z _ (by simp)) t.o, one _ (z _ (by simp)) t.l, one _ (z _ (by simp)) t.a, ?_, ?_, s, t.nw, t.np, t.nm⟩
  · obtain ⟨ps, h1, h2, h3⟩ := id t.w
    refine ⟨ps, b _ _ (z _ (by simp)) h1, h2, fun pos cv hc => ?_⟩
    obtain ⟨c0, P0, e1, e2, e3, e4, e5⟩ := h3 pos cv hc
    exact ⟨c0, P0, e1, b _ _ (nt _ _ e2 codeG_ne) e2, one _ (fun q => e5 (by simp [q])) e3, e4, e5⟩
  · obtain ⟨ps, h1, h2, h3⟩ := id t.p
    refine ⟨ps, b _ _ (z _ (by simp)) h1, h2, fun pos cv hc => ?_⟩
    obtain ⟨c0, e1, e2⟩ := h3 pos cv hc
    exact ⟨c0, e1, b _ _ (nt _ _ e2 LamX.codeO_ne) e2⟩
theorem lamC_go {T : Tb} {S : List Addr} {H H1 : Hp} {f : Addr} {q : Str} {params : Arguments} {body : Expr} {scope : Scope} {cl : List (Str × Addr)} (l : LamC H f q params body scope cl) (g : Go T H H1) : LamC H1 f q params body scope cl := l.ext fun b o e n => g.1 b o e n (.inl (by simp))
/-- the law's helper that calls a lambda -/
structure Tol (K : PySem.W.Frag) (mg : Str → Option Value) (CS fT : Addr) (dT : FuncData) : Prop where
  F : Fun K "_law_told" "_law_told" sTold fT dT
  mT : mg "_law_told" = some (.ref fT)
  bT : Binds K dT ["what"] []
theorem scTo : FnScope ["what"] ["what"] (defScope sTold) := ⟨rfl, rfl, rfl, by decide +kernel, rfl, by decide +kernel, by decide +kernel⟩
/-- lambda number j stands at f -/
def LJ (X : Cx) (H : Hp) (f : Addr) (j : Nat) : Prop := LamC H f (X.env.qual ++ "<lambda>") (lamA j) (lamB j) (lamSc j) (cloFrom X.env.cells (lamSc j).names [])
def tLamJ (X : Cx) (T : Tb) (j : Nat) : TE := fun _ H Q => TOk T H ∧ ∀ H1 f, Go T H H1 → LJ X H1 f j → Q (.ref f) H1
theorem pe_lamJ {X : Cx} {T : Tb} {c : Addr} {params : Arguments} {body : Expr} {scope : Scope} {pos : Pos} (j : Nat) (TB : LamX.TabB X.base X.mg c T.p) (hcode : X.env.code = .ref c) (hdef : defaultsOf params X.env = ([], []))
    (L : LamX.LamS X.env.scope scope) (hq : X.env.qual ++ "<lambda>" = lamP) (ep : params = lamA j) (eb : body = lamB j) (es : scope = lamSc j) : PE X (.Lambda params body scope pos) (tLamJ X T j) := by
  refine PE.weak (pe_lambdaC TB hcode hdef L) fun σ H Q h => ?_
  refine ⟨by rw [hq]; exact h.1.p, fun H1 f bt ts la => h.2 H1 f (but_p h.1 bt (by rw [← hq]; exact ts)) ?_⟩
  subst ep eb es
  exact la
section
variable {P : Program} {w : World} {K : PySem.W.Frag} {mg : Str → Option Value} {base : Heap} {T : Tb} {C CR CS : Addr} {M : MD}
variable {fp cp fT : Addr} {Ao : Around} {oo : List Env} {so s : Shared} {Ho H : Hp} {Eo : XK} {dT : FuncData}
def LBd (P : Program) (w : World) (K : PySem.W.Frag) (mg : Str → Option Value) (base : Heap) (T : Tb) (C CR : Addr) (fp cp : Addr) (Ao : Around) (oo : List Env) (so : Shared) (Ho : Hp) (Eo : XK) (j : Nat) : Prop :=
  ∀ (A : Around) (outer : List Env) (s : Shared) (H : Hp) (E : XK) (f c' : Addr), Room 21 (A.deeper (LamX.lamEnv (XP P w K mg base fp cp Ao oo so Ho Eo) (lamSc j) s.heap.objs.size f c')) → PE (LamX.lamCx (XP P w K mg base fp cp Ao oo so Ho Eo) A outer s H E (lamSc j) f c') (lamB j) (tBad C T CR E)
theorem lbs (m : Ms P w K mg base T C CR CS M) : ∀ j, j < 8 → LBd P w K mg base T C CR fp cp Ao oo so Ho Eo j :=
  all8 (p := LBd P w K mg base T C CR fp cp Ao oo so Ho Eo) (fun _ _ _ _ _ _ _ hr => lb0 m hr) (fun _ _ _ _ _ _ _ hr => lb1 m hr) (fun _ _ _ _ _ _ _ hr => lb2 m hr) (fun _ _ _ _ _ _ _ hr => lb3 m hr) (fun _ _ _ _ _ _ _ hr => lb4 m hr) (fun _ _ _ _ _ _ _ hr => lb5 m hr) (fun _ _ _ _ _ _ _ hr => lb6 m hr) (fun _ _ _ _ _ _ _ hr => lb7 m hr)
/-- what the lambdas find -/
def BadAt (C : Addr) (T : Tb) (σ : L2.St) (H : Hp) : Prop := ∃ r d ow gs ms hs bs, σ[4]? = some (some (.ref r)) ∧ RAt C H r d ow gs ms hs bs ∧ gl gs "x" = none ∧ gs.length ≤ 1000 ∧ TOk T H
def tTold8 (X : Cx) (C : Addr) (T : Tb) (σ0 : L2.St) : TE := fun σ H Q => ∃ j f, j < 8 ∧ σ[3]? = some (some (.ref f)) ∧ LJ X H f j ∧ BadAt C T σ0 H ∧ ∀ H', Go T H H' → Q (.str "StoreError") H'
theorem told8 (m : Ms P w K mg base T C CR CS M) (t : Tol K mg CS fT dT) {scope : Scope} {ce : Env} {fpp : List Addr} {pins : List (Addr × Obj)} {σ0 : L2.St} {p1 p2 pos : Pos} (hr : Room 23 (XP P w K mg base fp cp Ao oo so Ho Eo).A) (I : Inv (XP P w K mg base fp cp Ao oo so Ho Eo) pins σ0 H s)
    (ff : ∀ b ∈ fpp, FpOk (XP P w K mg base fp cp Ao oo so Ho Eo) pins H b ∧ b < s.heap.objs.size) (hg : ce.scope.names.lookup ("_law_told" : Str) = some NameKind.globalImplicit) (hf : Vis ce.scope "f") :
    PE ((XP P w K mg base fp cp Ao oo so Ho Eo).blk s H scope ce fpp) (.Call (.Name "_law_told" p1) [.Name "f" p2] [] pos) (tTold8 (XP P w K mg base fp cp Ao oo so Ho Eo) C T σ0) := by
  refine ⟨fun ps s1 σ1 H1 Q I1 h => ?_⟩
  obtain ⟨j, f, hj, e3, ⟨pm, c', ctv, hl, hc⟩, ⟨r, d, ow, gs, ms, hs, bs, hb⟩, k⟩ := h
  obtain ⟨oc, od, kV, doc, pm2, an, cdv, ct, osl, rfl, lk, hcd⟩ := t.F.ex
  refine (pe_hand (X := XP P w K mg base fp cp Ao oo so Ho Eo) (k := 21) (params := lamA j) (body := lamB j) (scope := lamSc j) (t := fun E => tBad C T CR E) (fun _ => σ0) hg t.mT t.F.kp lk hcd t.bT scTo rfl (Or.inl rfl)
    (LamX.told_gives (CS := CS) (ret := "StoreError") (e := "StoreError") rfl m.X.gS (by decide) (fun _ => rfl)) (pe_var (i := 3) rfl hf) (fun J => ⟨_, blk_back I ff J⟩) hr (slams j hj) (fun q cl pm cv ctv => bindLs j hj q cl pm cv ctv) (lbs m j hj)).run ps s1 σ1 H1 Q I1 ?_
  exact ⟨_, e3, f, pm, c', ctv, rfl, hl, hc, hl, r, d, ow, gs, ms, hs, bs, hb.1, hb.2.1, hb.2.2.1, hb.2.2.2.1, hb.2.2.2.2, fun H' g => ⟨true, m.X.caught, fun _ => k H' g, fun q => nomatch q⟩⟩
end
end R
end Text_R23
section Text_R24
set_option Elab.async false
set_option linter.all false
set_option maxRecDepth 100000
set_option maxHeartbeats 4000000
namespace R
open PySem PySem.Spec PyProof.Rows L2 Gx GxR LamY LamZ
theorem so_of {xs ys : List Str} (p : ys.Perm (uniq xs)) (h : sortedS ys = true) : so xs = ys := (srt_eq p h).symm
def ow0 : Owns := [("d/**", ["bob"]), ("d/x", ["cy", "di"])]
def fB0 : Files := [("d/a", "1"), ("d/x", "2")]
def nd0 : Owns := [("d/a", ["bob"]), ("d/x", ["cy", "di"])]
theorem fnd_dx : fnd ow0 "d/x" = (["cy", "di"] : List Str) := by decide +kernel
theorem fnd_da : fnd ow0 "d/a" = (["bob"] : List Str) := by decide +kernel
theorem own_dx : own ow0 "d/x" = (["cy", "di"] : List Str) := by
  unfold own
  rw [fnd_dx]
  exact so_of (by decide +kernel) (by decide +kernel)
theorem own_da : own ow0 "d/a" = (["bob"] : List Str) := by
  unfold own
  rw [fnd_da]
  exact so_of (by decide +kernel) (by decide +kernel)
theorem paths0 : paths [] fB0 = (["d/a", "d/x"] : List Str) := so_of (by decide +kernel) (by decide +kernel)
theorem chg0 : chg [] fB0 = ([("come", "d/a"), ("come", "d/x")] : List (Str × Str)) := by
  unfold chg
  rw [paths0]
  decide +kernel
theorem need0 : need ow0 [] fB0 = nd0 := by
  unfold need
  rw [chg0]
  have e1 : needOf ow0 ("come", "d/a") = some (("d/a", ["bob"]) : Str × List Str) := by
    unfold needOf
    show (if own ow0 "d/a" = [] then none else some (("d/a" : Str), own ow0 "d/a")) = _
    rw [own_da]
    rfl
  have e2 : needOf ow0 ("come", "d/x") = some (("d/x", ["cy", "di"]) : Str × List Str) := by
    unfold needOf
    show (if own ow0 "d/x" = [] then none else some (("d/x" : Str), own ow0 "d/x")) = _
    rw [own_dx]
    rfl
  rw [List.filterMap_cons_some e1, List.filterMap_cons_some e2]
  rfl
theorem others0 : others ["cy"] "ann" = (["cy"] : List Str) := so_of (by decide +kernel) (by decide +kernel)
theorem lacks0 : lacks [("main", 2)] "main" "ann" (others ["cy"] "ann") (need ow0 [] fB0) = (["agree 1", "own d/a"] : List Str) := by
  rw [others0, need0]
  decide +kernel
theorem lines0 : linesOf (need ow0 [] fB0) "ann" = ([["bob"], ["cy", "di"]] : List (List Str)) := by
  rw [need0]
  decide +kernel
theorem so0 : so (linesOf (need ow0 [] fB0) "ann").flatten = (["bob", "cy", "di"] : List Str) := by
  rw [lines0]
  exact so_of (by decide +kernel) (by decide +kernel)
theorem ready0 : (setsOf (so (linesOf (need ow0 [] fB0) "ann").flatten)).filter (hit (linesOf (need ow0 [] fB0) "ann")) = ([["bob", "cy"], ["bob", "di"], ["bob", "cy", "di"]] : List (List Str)) := by
  rw [so0, lines0]
  decide +kernel
theorem few0 {p : List Str} (h : IsFew ((setsOf (so (linesOf (need ow0 [] fB0) "ann").flatten)).filter (hit (linesOf (need ow0 [] fB0) "ann"))) p) : p = (["bob", "cy"] : List Str) := by
  rw [ready0] at h
  obtain ⟨h1, h2, h3⟩ := h
  simp only [List.mem_cons, List.not_mem_nil, or_false] at h1
  rcases h1 with rfl | rfl | rfl
  · rfl
  · have := h3 (["bob", "cy"] : List Str) (by simp) rfl
    exact absurd this (by decide +kernel)
  · have := h2 (["bob", "cy"] : List Str) (by simp)
    exact absurd this (by decide)
theorem pathsA : paths [] [("a", "x")] = (["a"] : List Str) := so_of (by decide +kernel) (by decide +kernel)
theorem pathsA1 : paths [] [("a", "1")] = (["a"] : List Str) := so_of (by decide +kernel) (by decide +kernel)
theorem faults0 : faults [] [("a", "x")] 100000 [] [] "w" = ([] : List Str) := by
  have e : chg [] [("a", "x")] = ([("come", "a")] : List (Str × Str)) := by
    unfold chg
    rw [pathsA]
    decide +kernel
  unfold faults
  rw [e]
  decide +kernel
theorem faults1 : faults [] [] 100000 [] [] "w" = (["empty"] : List Str) := by
  have e : chg [] [] = [] := by
    have h : paths [] [] = [] := so_of (by decide +kernel) (by decide +kernel)
    unfold chg
    rw [h]
    rfl
  unfold faults
  rw [e]
  decide +kernel
theorem lacks1 : lacks [("main", 2)] "side" "ann" (others [] "ann") (need ow0 [] [("d/a", "1")]) = ([] : List Str) := by
  have e : others [] "ann" = [] := so_of (by decide +kernel) (by decide +kernel)
  rw [e]
  unfold lacks
  rw [if_neg (by decide +kernel), if_neg (by decide +kernel)]
  rfl
def many9 : List Str := ["p0", "p1", "p2", "p3", "p4", "p5", "p6", "p7", "p8"]
def pk (k : Nat) : Str := ("p" : Str) ++ Str.ofString (toString ((k : Nat) : Int))
theorem many_eq : (List.range 9).map pk = many9 := by decide +kernel
def ow1 : Owns := [("**", many9)]
theorem own1 : own ow1 "a" = many9 := by
  have e : fnd ow1 "a" = many9 := by decide +kernel
  unfold own
  rw [e]
  exact so_of (by decide +kernel) (by decide +kernel)
theorem need1 : need ow1 [] [("a", "1")] = ([("a", many9)] : Owns) := by
  have e : chg [] [("a", "1")] = ([("come", "a")] : List (Str × Str)) := by
    unfold chg
    rw [pathsA1]
    decide +kernel
  have e1 : needOf ow1 ("come", "a") = some (("a", many9) : Str × List Str) := by
    unfold needOf
    show (if own ow1 "a" = [] then none else some (("a" : Str), own ow1 "a")) = _
    rw [own1]
    rfl
  unfold need
  rw [e, List.filterMap_cons_some e1]
  rfl
theorem lines1 : linesOf (need ow1 [] [("a", "1")]) "ann" = [many9] := by
  rw [need1]
  decide +kernel
theorem so1 : so (linesOf (need ow1 [] [("a", "1")]) "ann").flatten = many9 := by
  rw [lines1]
  exact so_of (by decide +kernel) (by decide +kernel)
theorem lines3 : linesOf (need ow1 [] [("a", "1")]) "p3" = [] := by
  rw [need1]
  decide +kernel
theorem few3 {p : List Str} (h : IsFew ((setsOf (so (linesOf (need ow1 [] [("a", "1")]) "p3").flatten)).filter (hit (linesOf (need ow1 [] [("a", "1")]) "p3"))) p) : p = [] := by
  rw [lines3] at h
  have e : so ([] : List (List Str)).flatten = [] := so_of (by decide +kernel) (by decide +kernel)
  rw [e] at h
  have h1 := h.1
  have e2 : (setsOf []).filter (hit []) = [[]] := by decide +kernel
  rw [e2] at h1
  simpa using h1
theorem small0 : small ow0 := by unfold small; decide +kernel
theorem small1 : small ow1 := by unfold small; decide +kernel
theorem names0 : namesOk ow0 := by unfold namesOk okS; decide +kernel
theorem names1 : namesOk ow1 := by unfold namesOk okS; decide +kernel
theorem files0 : filesOk fB0 := by unfold filesOk okS; decide +kernel
theorem filesE : filesOk [] := by unfold filesOk okS; decide +kernel
theorem filesX : filesOk [("a", "x")] := by unfold filesOk okS; decide +kernel
theorem filesA1 : filesOk [("a", "1")] := by unfold filesOk okS; decide +kernel
theorem filesD : filesOk [("d/a", "1")] := by unfold filesOk okS; decide +kernel
end R
end Text_R24
section Text_R25
set_option Elab.async false
set_option linter.all false
set_option maxRecDepth 100000
set_option maxHeartbeats 4000000
namespace R
open PySem PySem.Spec PyProof.Rows L2 Gx GxR LamY LamZ
def spPlain (T : Tb) : Sp := fun vs H Q _ => vs = [] ∧ TOk T H ∧ ∀ H', Go T H H' → Q (.bl true) H'
theorem plainQ : (("_law_plain" : Str) ++ ".<locals>." ++ "<lambda>" : Str) = lamP := by decide +kernel
/-- the lambda that asks for the fewest -/
def lamF : Expr := match (defBody sPlain).getD 8 noS with
  | .If (.Compare (.Call _ [e] _ _) _ _ _) _ _ _ => e
  | _ => .Constant .none 0 ⟨0, 0, 0, 0⟩
def lamFa : Arguments := match lamF with
  | .Lambda a _ _ _ => a
  | _ => ⟨[], [], none, [], [], none, []⟩
def lamFb : Expr := match lamF with
  | .Lambda _ b _ _ => b
  | e => e
def lamFs : Scope := match lamF with
  | .Lambda _ _ s _ => s
  | _ => defScope sPlain
theorem lamFa_eq : lamFa = ⟨[], [], none, [], [], none, []⟩ := by rfl
theorem lamF_S : LamX.LamS (defScope sPlain) lamFs := LamX.lamS_by (by decide +kernel)
theorem bindF (q : Str) (cl : List (Str × Addr)) (pm cv ctv : Value) : bindArgs (PySem.W.kla_fn "<lambda>" q lamFa lamFb lamFs cl pm cv ctv) ⟨[], []⟩ = pure [] := by
  rw [lamFa_eq]
  exact bind0 _ _ _ _ _ _ _
section
variable {P : Program} {w : World} {K : PySem.W.Frag} {mg : Str → Option Value} {base : Heap} {T : Tb} {C CR CS : Addr} {M : MD}
/-- its body raises: nine names -/
def tNine (C : Addr) (T : Tb) (CR : Addr) (E : XK) : TE := fun σ H _ => ∃ r d gs ms hs bs, σ[4]? = some (some (.ref r)) ∧ RAt C H r d ow1 gs ms hs bs ∧ TOk T H ∧ ∀ H', Go T H H' → E (.ref CR) none H'
theorem lbF {fp cp f c' : Addr} {Ao A : Around} {oo outer : List Env} {so s : Shared} {Ho H : Hp} {Eo E : XK} (m : Ms P w K mg base T C CR CS M) (hr : Room 21 (A.deeper (LamX.lamEnv (XP P w K mg base fp cp Ao oo so Ho Eo) lamFs s.heap.objs.size f c'))) :
    PE (LamX.lamCx (XP P w K mg base fp cp Ao oo so Ho Eo) A outer s H E lamFs f c') lamFb (tNine C T CR E) := by
  refine L2.PE.weak (pe_meth (pv 4) m.L.cl m.mE m.GE hr m.bE .nil (passes_call (takes_of rfl rfl rfl rfl) (fun _ _ _ _ e => e)) (pa_cons pe_dnewK (pa_cons (pe_disp (pps_cons pe_str pe_str pps_nil) (by rfl) (by rfl) (fun z => by cases z) (by decide)) (pa_cons pe_str pa_nil)))) fun σ H Q h => ?_
  obtain ⟨r, d, gs, ms, hs, bs, e4, ra, tk, k⟩ := h
  obtain ⟨⟨dx, o, hh, bb, er, _⟩, _⟩ := id ra
  refine ⟨_, e4, r, dx, _, rfl, er, look_no (by decide +kernel), fun p hp => ?_⟩
  have w1 : Go T H (upd H p (.dK [])) := go_upd tk hp
  intro q hq
  refine ⟨upd_same, [(Sum.inr "a", .str "1")], rfl, by decide, ?_⟩
  rw [upd_upd, show mergeK [] [((Sum.inr "a" : Key), V.str "1")] = fk [("a", "1")] by decide +kernel]
  have w2 : Go T (upd H p (.dK [])) (upd (upd H p (.dK [])) q (.dK (fk [("a", "1")]))) := go_upd w1.2 hq
  have e9 : (R.so (linesOf (need ow1 [] [("a", "1")]) "ann").flatten).length = 9 := by rw [so1]; rfl
  exact ⟨r, d, p, q, [], [("a", "1")], ow1, gs, ms, hs, bs, "ann", rfl, ra.ext (w1.trans w2) (by simp) (by simp), w2.at upd_same, upd_same, filesE, filesA1, small1, names1, by rw [lines1]; decide, w2.2, fun _ H' g => k H' ((w1.trans w2).trans g), fun z => absurd (e9 ▸ z) (by decide)⟩
theorem scPl : FnScope NP [] (defScope sPlain) := ⟨rfl, rfl, rfl, by decide +kernel, rfl, by decide +kernel, by decide +kernel⟩
theorem ok_plain {f cp fT : Addr} {fd dT : FuncData} (F : FunC K "_law_plain" "_law_plain" sPlain f cp fd) (m : Ms P w K mg base T C CR CS M) (bp : LamX.TabB base mg cp T.p) (t : Tol K mg CS fT dT) :
    FnOk P w K mg base CX0 24 f fd [] (spPlain T) := by
  refine F.ok scPl (fun vs H Q E h => ?_) (fun A outer s H vs Q E hr h => ?_)
  · rw [h.1]
    rfl
  · obtain ⟨rfl, tk, k1⟩ := h
    have hu := hu_of hr
    obtain ⟨oc, od, kV, doc, pm2, an, cdv, ct, osl, rfl, lk, hcd⟩ := t.F.ex
    refine ⟨_, pss_cons (ps_asg (pe_tup (pa_cons (pe_make0 m.mm m.GI (hr.mono (by decide)) rfl m.L.mgC m.bI .nil pass0) (pa_cons (pe_callTy call_tuple_of (by rfl) m.Y.tuple (by decide +kernel) (pa_cons (pe_lc (own := [("k", 0)]) (g := gName 0) (tt := tYes) rfl scPl.nd (pi_range1 rfl m.Y.range (pa_cons pe_int pa_nil))
          (blkOk_by (N := NP) (sc := defScope sPlain) (by decide +kernel)) (fun _ _ _ _ _ => pg_name (i := 0) scPl.nd rfl (Or.inl rfl)) (fun _ _ _ _ _ => pts_nil) (fun _ _ _ _ _ => pe_op op_add_str pe_str (pe_callTy call_str_int (by rfl) m.Y.str (by decide +kernel) (pa_cons (pv 0) pa_nil)))) pa_nil)) pa_nil)))
          (pg_tup rfl (pgs_cons (pg_name (i := 4) scPl.nd rfl (Or.inr rfl)) (pgs_cons (pg_name (i := 1) scPl.nd rfl (Or.inl rfl)) pgs_nil))))
      (pss_cons (ps_expr (pe_meth (pv 4) m.L.cl m.mO m.GO (hr.mono (by decide)) m.bO .nil passN (pa_cons (pe_tup (pa_cons (pe_tup (pa_cons pe_str (pa_cons (pe_tup (pa_cons pe_str pa_nil)) pa_nil))) (pa_cons (pe_tup (pa_cons pe_str (pa_cons (pe_tup (pa_cons pe_str (pa_cons pe_str pa_nil))) pa_nil))) pa_nil))) pa_nil)))
      (pss_cons (ps_expr (pe_meth (pv 4) m.L.cl m.mG m.GG (hr.mono (by decide)) m.bG .nil passN (pa_cons pe_str (pa_cons pe_int pa_nil))))
      (pss_cons (ps_set (i := 2) scPl.nd rfl (Or.inl rfl) (pe_lst (pa_cons (pe_lamJ 0 bp rfl rfl (slams 0 (by decide)) plainQ rfl rfl rfl) (pa_cons (pe_lamJ 1 bp rfl rfl (slams 1 (by decide)) plainQ rfl rfl rfl) (pa_cons (pe_lamJ 2 bp rfl rfl (slams 2 (by decide)) plainQ rfl rfl rfl) (pa_cons (pe_lamJ 3 bp rfl rfl (slams 3 (by decide)) plainQ rfl rfl rfl)
          (pa_cons (pe_lamJ 4 bp rfl rfl (slams 4 (by decide)) plainQ rfl rfl rfl) (pa_cons (pe_lamJ 5 bp rfl rfl (slams 5 (by decide)) plainQ rfl rfl rfl) (pa_cons (pe_lamJ 6 bp rfl rfl (slams 6 (by decide)) plainQ rfl rfl rfl) (pa_cons (pe_lamJ 7 bp rfl rfl (slams 7 (by decide)) plainQ rfl rfl rfl) pa_nil))))))))))
      (pss_cons (ps_if (PW.pt (pw_or (pt_cmpR (op_neD hr.units) (pe_lcP (own := [("f", 3)]) (g := gName 3) (tt := fun σ => _) rfl scPl.nd (pi_list (pv 2)) (blkOk_by (N := NP) (sc := defScope sPlain) (by decide +kernel)) (fun _ _ _ _ _ => pg_name (i := 3) scPl.nd rfl (Or.inl rfl))
            (fun pins σ s2 H2 C2 cl fpp I ff => pts_one (pt_cmpR op_ne (told8 m t hr I ff rfl (Or.inl rfl)) pe_str (nomark _))) (fun _ _ _ _ _ => pe_int)) (pe_lst pa_nil) (nomark _))
          (pw_or (pt_cmpR (op_neD hr.units) (pe_meth (pv 4) m.L.cl m.mW m.GW (hr.mono (by decide)) m.bW .nil pass0 (pa_cons pe_str pa_nil)) (pe_tup (pa_cons pe_str (pa_cons pe_str pa_nil))) (nomark _))
          (pw_or (pt_cmpR (op_neD hr.units) (pe_meth (pv 4) m.L.cl m.mS m.GS (hr.mono (by decide)) m.bS .nil pass0 (pa_cons pe_str (pa_cons pe_dnewK (pa_cons (pe_disp (pps_cons pe_str pe_str (pps_cons pe_str pe_str pps_nil)) (by rfl) (by rfl) (fun z => by cases z) (by decide)) (pa_cons pe_str (pa_cons (pe_lst (pa_cons pe_str pa_nil)) pa_nil)))))) (pe_tup (pa_cons pe_str (pa_cons pe_str pa_nil))) (nomark _))
          (pw_or1 (pt_cmpR (op_neD hr.units) (pe_meth (pv 4) m.L.cl m.mE m.GE (hr.mono (by decide)) m.bE .nil passN (pa_cons pe_dnewK (pa_cons (pe_disp (pps_cons pe_str pe_str (pps_cons pe_str pe_str pps_nil)) (by rfl) (by rfl) (fun z => by cases z) (by decide)) (pa_cons pe_str pa_nil)))) (pe_tup (pa_cons pe_str (pa_cons pe_str pa_nil))) (nomark _)))))))
        (pss_one (ps_ret pe_bl)) pss_nil)
      (pss_cons (ps_if (PW.pt (pw_or (pt_cmpR (op_neD hr.units) (pe_meth (pv 4) m.L.cl m.mU m.GU (hr.mono (by decide)) m.bU .nil pass0 (pa_cons pe_dnewK (pa_cons (pe_disp (pps_cons pe_str pe_str pps_nil) (by rfl) (by rfl) (fun z => by cases z) (by decide)) (pa_cons pe_str pa_nil)))) (pe_tup pa_nil) (nomark _))
          (pw_or1 (pt_cmpR (op_neD hr.units) (pe_meth (pv 4) m.L.cl m.mU m.GU (hr.mono (by decide)) m.bU .nil pass0 (pa_cons pe_dnewK (pa_cons pe_dnewK (pa_cons pe_str pa_nil)))) (pe_tup (pa_cons pe_str pa_nil)) (nomark _)))))
        (pss_one (ps_ret pe_bl)) pss_nil)
      (pss_cons (ps_if (pt_cmpR (op_neD hr.units) (pe_meth (pv 4) m.L.cl m.mS m.GS (hr.mono (by decide)) m.bS .nil pass0 (pa_cons pe_str (pa_cons pe_dnewK (pa_cons (pe_disp (pps_cons pe_str pe_str pps_nil) (by rfl) (by rfl) (fun z => by cases z) (by decide)) (pa_cons pe_str (pa_cons (pe_lst pa_nil) pa_nil)))))) (pe_tup pa_nil) (nomark _))
        (pss_one (ps_ret pe_bl)) pss_nil)
      (pss_cons (ps_expr (pe_meth (pv 4) m.L.cl m.mO m.GO (hr.mono (by decide)) m.bO .nil passN (pa_cons (pe_tup (pa_cons (pe_tup (pa_cons pe_str (pa_cons (pv 1) pa_nil))) pa_nil)) pa_nil)))
      (pss_cons (ps_if (pt_cmpR op_ne (pe_hand (X := XP P w K mg base f cp A outer s H E) (k := 21) (params := lamFa) (body := lamFb) (scope := lamFs) (t := fun E => tNine C T CR E) id rfl t.mT t.F.kp lk hcd t.bT scTo rfl (Or.inl rfl) (LamX.told_gives (CS := CS) (ret := "StoreError") (e := "StoreError") rfl m.X.gS (by decide) (fun _ => rfl))
            (pe_lambdaC (params := lamFa) (body := lamFb) (scope := lamFs) bp rfl rfl lamF_S) (fun J => ⟨_, J⟩) hr lamF_S bindF (fun A2 o2 s2 H2 E2 f2 c2 hr2 => lbF m hr2)) pe_str (nomark _))
        (pss_one (ps_ret pe_bl)) pss_nil)
      (pss_one (ps_ret (pe_and (pe_cmpR op_isN (pe_meth (pv 4) m.L.cl m.mG m.GG (hr.mono (by decide)) m.bG .nil passN (pa_cons pe_str (pa_cons pe_int pa_nil))) pe_non (nomark _))
          (pe_and (pe_cmpR (op_eq_dict (by have := hr.units; exact Nat.lt_of_le_of_lt (Nat.le_add_right _ 64) this)) (pe_fld (pv 4) rfl) pe_dnewK (nomark _))
          (pe_one (pe_cmpR (op_eqD hr.units) (pe_meth (pv 4) m.L.cl m.mE m.GE (hr.mono (by decide)) m.bE .nil passN (pa_cons pe_dnewK (pa_cons (pe_disp (pps_cons pe_str pe_str pps_nil) (by rfl) (by rfl) (fun z => by cases z) (by decide)) (pa_cons pe_str pa_nil)))) (pe_tup pa_nil) (nomark _))))))))))))))), ?_⟩
    --READ
    refine fun r dx hr0 hdx ne => ?_
    have w0a : Go T H (upd H dx (.own r)) := go_upd tk hdx
    have w0 : Go T H (upd (upd H dx (.own r)) r (.ins C dx [])) := w0a.trans (go_upd w0a.2 (by rw [upd_ne (Ne.symm ne)]; exact hr0))
    have fr : Fresh H r := fresh_none hr0
    refine ⟨r, dx, rfl, upd_same, w0.2, fun H1 d g1 fd ra1 => ⟨rfl, ?_⟩⟩
    have fdH : Fresh H d := fun u e => by
      refine Classical.byContradiction fun nt => ?_
      have nt : ∀ ps, u ≠ .tbl ps := fun ps z => nt ⟨ps, z⟩
      obtain ⟨ps, z⟩ := fd u (w0.1 d u e nt (.inl (by simp)))
      exact nt ps z
    have h1 : Go T H H1 := GoE.news w0 g1 fun b hb => by rw [List.mem_singleton.mp hb]; exact fr
    clear g1 w0 w0a fd hr0 hdx ne
    --R2
    refine ⟨9, rfl, by decide, by decide, fun D hD => lc_range (lo := 0) (n := 9) (fun i G => G = upd H1 D (.lst (((List.range i).map pk).map V.str))) rfl (fun i G hi e => ?_) (fun G e => ?_)⟩
    · subst e
      obtain ⟨s1, _, s3⟩ := small_txt i (by omega)
      have e0 : ((0 : Int) + (i : Int)) = ((i : Nat) : Int) := by omega
      refine ⟨rfl, _, rfl, _, rfl, by rw [e0]; exact s3, _, _, rfl, rfl, ?_, _, upd_same, ?_, ?_⟩
      · rw [e0, sizeLine_eq]
        have : ("p" : Str).length = 1 := by decide
        omega
      · rw [List.length_map, List.length_map, List.length_range, sizeLine_eq]
        omega
      · show _ = _
        rw [upd_upd, List.range_succ, List.map_append, List.map_append, e0]
        rfl
    subst e
    have em : ((List.range 9).map pk).map V.str = many9.map V.str := by rw [many_eq]
    rw [em]
    have w2 : Go T H1 (upd H1 D (.lst (many9.map V.str))) := go_upd h1.2 hD
    have eD : upd H1 D (.lst (many9.map V.str)) D = some (.lst (many9.map V.str)) := upd_same
    have ra2 := ra1.ext w2 (by simp) (by simp)
    have h2 := h1.trans w2
    generalize upd H1 D (.lst (many9.map V.str)) = H2 at w2 eD ra2 h2 ⊢
    refine ⟨D, _, rfl, .inl ⟨SqL.of eD, fun u hu => ?_⟩⟩
    have w3 : Go T H2 (upd H2 u (.tup (many9.map V.str))) := go_upd h2.2 hu
    have eu : upd H2 u (.tup (many9.map V.str)) u = some (.tup (many9.map V.str)) := upd_same
    have ra3 := ra2.ext w3 (by simp) (by simp)
    have h3 := h2.trans w3
    generalize upd H2 u (.tup (many9.map V.str)) = H3 at w3 eu ra3 h3 ⊢
    refine ⟨by show 2 ≤ sizeLine; decide, fun p hp => ⟨p, _, rfl, SqT.of upd_same, rfl, _, _, rfl, _, _, rfl, rfl, ?_⟩⟩
    have w4 : Go T H3 (upd H3 p (.tup [.ref r, .ref u])) := go_upd h3.2 hp
    have eu4 := w4.t _ _ eu
    have ra4 := ra3.ext w4 (by simp) (by simp)
    have h4 := h3.trans w4
    generalize upd H3 p (.tup [.ref r, .ref u]) = H4 at w4 eu4 ra4 h4 ⊢
    clear w2 w3 w4 ra1 ra2 ra3 eu eD h1 h2 h3 hp hu hD
    -- own
    obtain ⟨⟨dx4, o4, hh4, bb4, er4, _⟩, _⟩ := id ra4
    refine ⟨_, rfl, r, dx4, _, rfl, er4, look_no (by decide +kernel), by show 1 ≤ sizeLine; decide, fun u1 hu1 => ⟨by show 2 ≤ sizeLine; decide, fun t1 ht1 => ⟨by show 2 ≤ sizeLine; decide, fun u2 hu2 => ⟨by show 2 ≤ sizeLine; decide, fun t2 ht2 => ⟨by show 2 ≤ sizeLine; decide, fun a ha => ?_⟩⟩⟩⟩⟩
    have x1 : Go T H4 (upd H4 u1 (.tup [.str "bob"])) := go_upd h4.2 hu1
    have x2 := x1.trans (go_upd (S := []) (o := .tup [.str "d/**", .ref u1]) x1.2 ht1)
    have x3 := x2.trans (go_upd (S := []) (o := .tup [.str "cy", .str "di"]) x2.2 hu2)
    have x4 := x3.trans (go_upd (S := []) (o := .tup [.str "d/x", .ref u2]) x3.2 ht2)
    have x5 := x4.trans (go_upd (S := []) (o := .tup [.ref t1, .ref t2]) x4.2 ha)
    have q1 : upd (upd (upd (upd (upd H4 u1 (.tup [.str "bob"])) t1 (.tup [.str "d/**", .ref u1])) u2 (.tup [.str "cy", .str "di"])) t2 (.tup [.str "d/x", .ref u2])) a (.tup [.ref t1, .ref t2]) u1 = some (.tup [.str "bob"]) :=
      (((go_upd (T := T) (S := []) x1.2 ht1).trans (go_upd x2.2 hu2)).trans (go_upd x3.2 ht2)).trans (go_upd x4.2 ha) |>.t _ _ upd_same
    have q2 : upd (upd (upd (upd (upd H4 u1 (.tup [.str "bob"])) t1 (.tup [.str "d/**", .ref u1])) u2 (.tup [.str "cy", .str "di"])) t2 (.tup [.str "d/x", .ref u2])) a (.tup [.ref t1, .ref t2]) t1 = some (.tup [.str "d/**", .ref u1]) :=
      ((go_upd (T := T) (S := []) x2.2 hu2).trans (go_upd x3.2 ht2)).trans (go_upd x4.2 ha) |>.t _ _ upd_same
    have q3 : upd (upd (upd (upd (upd H4 u1 (.tup [.str "bob"])) t1 (.tup [.str "d/**", .ref u1])) u2 (.tup [.str "cy", .str "di"])) t2 (.tup [.str "d/x", .ref u2])) a (.tup [.ref t1, .ref t2]) u2 = some (.tup [.str "cy", .str "di"]) :=
      (go_upd (T := T) (S := []) x3.2 ht2).trans (go_upd x4.2 ha) |>.t _ _ upd_same
    have q4 : upd (upd (upd (upd (upd H4 u1 (.tup [.str "bob"])) t1 (.tup [.str "d/**", .ref u1])) u2 (.tup [.str "cy", .str "di"])) t2 (.tup [.str "d/x", .ref u2])) a (.tup [.ref t1, .ref t2]) t2 = some (.tup [.str "d/x", .ref u2]) :=
      (go_upd (T := T) (S := []) x4.2 ha).t _ _ upd_same
    have q5 : upd (upd (upd (upd (upd H4 u1 (.tup [.str "bob"])) t1 (.tup [.str "d/**", .ref u1])) u2 (.tup [.str "cy", .str "di"])) t2 (.tup [.str "d/x", .ref u2])) a (.tup [.ref t1, .ref t2]) a = some (.tup [.ref t1, .ref t2]) := upd_same
    have eu5 := x5.t _ _ eu4
    have ra5 := ra4.ext x5 (by simp) (by simp)
    have h5 := h4.trans x5
    clear x1 x2 x3 x4
    generalize upd (upd (upd (upd (upd H4 u1 (.tup [.str "bob"])) t1 (.tup [.str "d/**", .ref u1])) u2 (.tup [.str "cy", .str "di"])) t2 (.tup [.str "d/x", .ref u2])) a (.tup [.ref t1, .ref t2]) = H5 at x5 q1 q2 q3 q4 q5 eu5 ra5 h5 ⊢
    refine ⟨r, d, a, [], [], 100000, [], [], _, ow0, rfl, ra5, h5.2, .inr (SqT.of q5), (All2.nil.snoc ⟨t1, u1, rfl, q2, .inr q1⟩).snoc ⟨t2, u2, rfl, q4, .inr q3⟩, by decide, fun _ H6 g6 ra6 => ?_, fun z => absurd z (by decide +kernel)⟩
    have h6 : Go T H H6 := GoE.news h5 g6 fun b hb => by rw [List.mem_singleton.mp hb]; exact fr
    have eu6 := g6.t _ _ eu5
    clear g6 q1 q2 q3 q4 q5 x5 h5 ra5 eu5 h4 ra4 eu4 er4
    -- guard
    obtain ⟨⟨dx6, o6, hh6, bb6, er6, _⟩, _⟩ := id ra6
    refine ⟨_, rfl, r, dx6, _, rfl, er6, look_no (by decide +kernel), r, d, "main", 2, ow0, [], 100000, [], [], rfl, ra6, h6.2, by decide, fun _ H7 g7 ra7 => ?_, fun z => absurd z (by decide +kernel)⟩
    have ra7 : RAt C H7 r d ow0 [("main", 2)] 100000 [] [] := by
      have e : gSet [] "main" 2 = ([("main", 2)] : Gs) := by decide +kernel
      rw [e] at ra7
      exact ra7
    have h7 : Go T H H7 := GoE.news h6 g7 fun b hb => by rw [List.mem_singleton.mp hb]; exact fdH
    have eu7 := g7.t _ _ eu6
    clear g7 ra6 h6 eu6 er6
    -- the lambdas
    refine ⟨h7.2, fun J0 f0 g0 l0 => ⟨g0.2, fun J1 f1 g1 l1 => ⟨g1.2, fun J2 f2 g2 l2 => ⟨g2.2, fun J3 f3 g3 l3 => ⟨g3.2, fun J4 f4 g4 l4 => ⟨g4.2, fun J5 f5 g5 l5 => ⟨g5.2, fun J6 f6 g6 l6 => ⟨g6.2, fun J7 f7 g7 l7 => ?_⟩⟩⟩⟩⟩⟩⟩⟩
    have z6 := lamC_go (S := []) l6 g7
    have z5 := lamC_go (S := []) (lamC_go (S := []) l5 g6) g7
    have z4 := lamC_go (S := []) (lamC_go (S := []) (lamC_go (S := []) l4 g5) g6) g7
    have z3 := lamC_go (S := []) (lamC_go (S := []) (lamC_go (S := []) (lamC_go (S := []) l3 g4) g5) g6) g7
    have z2 := lamC_go (S := []) (lamC_go (S := []) (lamC_go (S := []) (lamC_go (S := []) (lamC_go (S := []) l2 g3) g4) g5) g6) g7
    have z1 := lamC_go (S := []) (lamC_go (S := []) (lamC_go (S := []) (lamC_go (S := []) (lamC_go (S := []) (lamC_go (S := []) l1 g2) g3) g4) g5) g6) g7
    have z0 := lamC_go (S := []) (lamC_go (S := []) (lamC_go (S := []) (lamC_go (S := []) (lamC_go (S := []) (lamC_go (S := []) (lamC_go (S := []) l0 g1) g2) g3) g4) g5) g6) g7
    have gz := ((((((g0.trans g1).trans g2).trans g3).trans g4).trans g5).trans g6).trans g7
    refine ⟨by show 8 ≤ sizeLine; decide, fun l hl => ?_⟩
    have gl := gz.trans (go_upd (S := []) (o := .lst [.ref f0, .ref f1, .ref f2, .ref f3, .ref f4, .ref f5, .ref f6, .ref f7]) gz.2 hl)
    have h8 := h7.trans gl
    have ra8 := ra7.ext gl (by simp) (by simp)
    have eu8 := gl.t _ _ eu7
    have el8 : upd J7 l (.lst [.ref f0, .ref f1, .ref f2, .ref f3, .ref f4, .ref f5, .ref f6, .ref f7]) l = some (.lst [.ref f0, .ref f1, .ref f2, .ref f3, .ref f4, .ref f5, .ref f6, .ref f7]) := upd_same
    have up : ∀ {ff : Addr} {j : Nat}, LJ (XP P w K mg base f cp A outer s H E) J7 ff j → LJ (XP P w K mg base f cp A outer s H E) (upd J7 l (.lst [.ref f0, .ref f1, .ref f2, .ref f3, .ref f4, .ref f5, .ref f6, .ref f7])) ff j := fun la => lamC_go (S := []) la (go_upd (S := []) gz.2 hl)
    have all : ∀ (i : Nat) (x : V), ([.ref f0, .ref f1, .ref f2, .ref f3, .ref f4, .ref f5, .ref f6, .ref f7] : List V)[i]? = some x → ∃ ff j, x = .ref ff ∧ j < 8 ∧ LJ (XP P w K mg base f cp A outer s H E) (upd J7 l (.lst [.ref f0, .ref f1, .ref f2, .ref f3, .ref f4, .ref f5, .ref f6, .ref f7])) ff j := fun i x hix => by
      rcases i with _ | _ | _ | _ | _ | _ | _ | _ | i
      · cases hix; exact ⟨f0, 0, rfl, by decide, up z0⟩
      · cases hix; exact ⟨f1, 1, rfl, by decide, up z1⟩
      · cases hix; exact ⟨f2, 2, rfl, by decide, up z2⟩
      · cases hix; exact ⟨f3, 3, rfl, by decide, up z3⟩
      · cases hix; exact ⟨f4, 4, rfl, by decide, up z4⟩
      · cases hix; exact ⟨f5, 5, rfl, by decide, up z5⟩
      · cases hix; exact ⟨f6, 6, rfl, by decide, up z6⟩
      · cases hix; exact ⟨f7, 7, rfl, by decide, up l7⟩
      · cases hix
    generalize upd J7 l (.lst [.ref f0, .ref f1, .ref f2, .ref f3, .ref f4, .ref f5, .ref f6, .ref f7]) = H8 at gl h8 ra8 eu8 el8 all ⊢
    clear up z0 z1 z2 z3 z4 z5 z6 gz l0 l1 l2 l3 l4 l5 l6 l7 g0 g1 g2 g3 g4 g5 g6 g7 h7 ra7 eu7 gl
    refine ⟨_, rfl, l, rfl, ⟨_, SqL.of el8⟩, fun D hD => lc_list (xs := [.ref f0, .ref f1, .ref f2, .ref f3, .ref f4, .ref f5, .ref f6, .ref f7]) (fun i G => Go T H8 G ∧ G D = some (.lst [])) ⟨go_upd h8.2 hD, upd_same⟩ (fun i G _ h => SqL.of (h.1.at el8)) (fun i x G hix h => ?_) (fun G h => ?_)⟩
    · obtain ⟨g, eD⟩ := h
      obtain ⟨ff, j, rfl, hj, la⟩ := all i x hix
      refine ⟨rfl, j, ff, hj, rfl, lamC_go (S := []) la g, ⟨r, d, ow0, [("main", 2)], 100000, [], [], rfl, ra8.ext g (by simp) (by simp), by decide +kernel, by decide, g.2⟩, fun G' g' => ⟨rfl, _, rfl, iteF' (by decide) ⟨g.trans g', g'.at eD⟩⟩⟩
    obtain ⟨g, eD⟩ := h
    have h9 := h8.trans g
    have ra9 := ra8.ext g (by simp) (by simp)
    have eu9 := g.t _ _ eu8
    clear el8 all g ra8 eu8 h8
    refine ⟨by decide, fun q hq => ⟨_, _, .lst (SqL.of (by rw [upd_ne (ne_of_none eD hq)]; exact eD)) .nil, .lst (SqL.of upd_same) .nil, by decide, by decide, _, rfl, iteF' (by decide) ?_⟩⟩
    have w10 : Go T G (upd G q (.lst [])) := go_upd h9.2 hq
    have h10 := h9.trans w10
    have ra10 := ra9.ext w10 (by simp) (by simp)
    have eu10 := w10.t _ _ eu9
    generalize upd G q (.lst []) = G10 at h10 ra10 eu10 ⊢
    clear w10 hq eD ra9 eu9 h9
    -- owners_of
    obtain ⟨⟨dx10, o10, hh10, bb10, er10, _⟩, _⟩ := id ra10
    refine ⟨_, rfl, r, dx10, _, rfl, er10, look_no (by decide +kernel), r, d, "d/x", ow0, [("main", 2)], 100000, [], [], rfl, ra10, h10.2, small0, by decide, fun G11 l11 w11 el11 => ⟨by show 2 ≤ sizeLine; decide, fun t11 ht11 => ?_⟩⟩
    rw [own_dx] at el11
    have w12 : Go T G11 (upd G11 t11 (.tup [.str "cy", .str "di"])) := go_upd w11.2 ht11
    refine ⟨_, _, .tup (SqT.of (w12.t _ _ el11)) (dp_strs _), .tup (SqT.of upd_same) (dp_strs ["cy", "di"]), by decide +kernel, by decide +kernel, _, rfl, iteF' (by decide +kernel) ?_⟩
    have h12 := (h10.trans w11).trans w12
    have ra12 := ra10.ext (w11.trans w12) (by simp) (by simp)
    have eu12 := (w11.trans w12).t _ _ eu10
    generalize upd G11 t11 (.tup [.str "cy", .str "di"]) = G12 at h12 ra12 eu12 ⊢
    clear w11 w12 ht11 el11 ra10 eu10 h10 er10
    -- lacks
    obtain ⟨⟨dx12, o12, hh12, bb12, er12, _⟩, _⟩ := id ra12
    refine ⟨_, rfl, r, dx12, _, rfl, er12, look_no (by decide +kernel), fun p1 hp1 => ?_⟩
    have w13 : Go T G12 (upd G12 p1 (.dK [])) := go_upd h12.2 hp1
    intro p2 hp2
    refine ⟨upd_same, [(Sum.inr "d/a", .str "1"), (Sum.inr "d/x", .str "2")], rfl, by decide, ?_⟩
    rw [upd_upd, show mergeK [] [((Sum.inr "d/a" : Key), V.str "1"), (Sum.inr "d/x", .str "2")] = fk fB0 by decide +kernel]
    have w14 : Go T (upd G12 p1 (.dK [])) (upd (upd G12 p1 (.dK [])) p2 (.dK (fk fB0))) := go_upd w13.2 hp2
    refine ⟨by show 1 ≤ sizeLine; decide, fun g1 hg1 => ?_⟩
    have w15 : Go T (upd (upd G12 p1 (.dK [])) p2 (.dK (fk fB0))) (upd (upd (upd G12 p1 (.dK [])) p2 (.dK (fk fB0))) g1 (.lst [.str "cy"])) := go_upd w14.2 hg1
    have wa := (w13.trans w14).trans w15
    refine ⟨r, d, p1, p2, g1, [], fB0, ow0, [("main", 2)], 100000, [], [], "main", "ann", ["cy"], rfl, ra12.ext wa (by simp) (by simp), (w14.trans w15).at upd_same, w15.at upd_same, filesE, files0, small0, names0, w15.2, SqL.of upd_same, by decide, by decide, fun G16 l16 w16 el16 => ⟨by show 2 ≤ sizeLine; decide, fun t16 ht16 => ?_⟩⟩
    rw [lacks0] at el16
    have w17 : Go T G16 (upd G16 t16 (.tup [.str "agree 1", .str "own d/a"])) := go_upd w16.2 ht16
    refine ⟨_, _, .tup (SqT.of (w17.t _ _ el16)) (dp_strs _), .tup (SqT.of upd_same) (dp_strs ["agree 1", "own d/a"]), by decide +kernel, by decide +kernel, _, rfl, iteF' (by decide +kernel) ?_⟩
    have wb := (wa.trans w16).trans w17
    have h17 := h12.trans wb
    have ra17 := ra12.ext wb (by simp) (by simp)
    have eu17 := wb.t _ _ eu12
    generalize upd G16 t16 (.tup [.str "agree 1", .str "own d/a"]) = G17 at h17 ra17 eu17 wb ⊢
    clear w13 w14 w15 w16 w17 wa wb ht16 el16 hg1 hp1 hp2 ra12 eu12 h12 er12
    -- fewest_who
    obtain ⟨⟨dx17, o17, hh17, bb17, er17, _⟩, _⟩ := id ra17
    refine ⟨_, rfl, r, dx17, _, rfl, er17, look_no (by decide +kernel), fun p3 hp3 => ?_⟩
    have w18 : Go T G17 (upd G17 p3 (.dK [])) := go_upd h17.2 hp3
    intro p4 hp4
    refine ⟨upd_same, [(Sum.inr "d/a", .str "1"), (Sum.inr "d/x", .str "2")], rfl, by decide, ?_⟩
    rw [upd_upd, show mergeK [] [((Sum.inr "d/a" : Key), V.str "1"), (Sum.inr "d/x", .str "2")] = fk fB0 by decide +kernel]
    have w19 : Go T (upd G17 p3 (.dK [])) (upd (upd G17 p3 (.dK [])) p4 (.dK (fk fB0))) := go_upd w18.2 hp4
    have wc := w18.trans w19
    have n3 : (R.so (linesOf (need ow0 [] fB0) "ann").flatten).length = 3 := by rw [so0]; rfl
    refine ⟨r, d, p3, p4, [], fB0, ow0, [("main", 2)], 100000, [], [], "ann", rfl, ra17.ext wc (by simp) (by simp), w19.at upd_same, upd_same, filesE, files0, small0, names0, by rw [lines0]; decide, w19.2, fun z => absurd (n3 ▸ z) (by decide), fun _ G20 l20 pp w20 el20 few => ⟨by show 2 ≤ sizeLine; decide, fun t20 ht20 => ?_⟩⟩
    obtain rfl := few0 few
    have w21 : Go T G20 (upd G20 t20 (.tup [.str "bob", .str "cy"])) := go_upd w20.2 ht20
    refine ⟨_, _, .tup (SqT.of (w21.t _ _ el20)) (dp_strs _), .tup (SqT.of upd_same) (dp_strs ["bob", "cy"]), by decide +kernel, by decide +kernel, _, rfl, iteF' (by decide +kernel) ?_⟩
    have wd := (wc.trans w20).trans w21
    have h21 := h17.trans wd
    have ra21 := ra17.ext wd (by simp) (by simp)
    have eu21 := wd.t _ _ eu17
    generalize upd G20 t20 (.tup [.str "bob", .str "cy"]) = G21 at h21 ra21 eu21 wd ⊢
    clear w18 w19 w20 w21 wc wd ht20 el20 hp3 hp4 ra17 eu17 h17 er17 few
    -- faults
    obtain ⟨⟨dx21, o21, hh21, bb21, er21, _⟩, _⟩ := id ra21
    refine ⟨_, rfl, r, dx21, _, rfl, er21, look_no (by decide +kernel), fun p5 hp5 => ?_⟩
    have w22 : Go T G21 (upd G21 p5 (.dK [])) := go_upd h21.2 hp5
    intro p6 hp6
    refine ⟨upd_same, [(Sum.inr "a", .str "x")], rfl, by decide, ?_⟩
    rw [upd_upd, show mergeK [] [((Sum.inr "a" : Key), V.str "x")] = fk [("a", "x")] by decide +kernel]
    have w23 : Go T (upd G21 p5 (.dK [])) (upd (upd G21 p5 (.dK [])) p6 (.dK (fk [("a", "x")]))) := go_upd w22.2 hp6
    have we := w22.trans w23
    refine ⟨r, d, p5, p6, [], [("a", "x")], ow0, [("main", 2)], 100000, [], [], "w", rfl, ra21.ext we (by simp) (by simp), w23.at upd_same, upd_same, filesE, filesX, w23.2, fun _ z => by simp at z, fun _ z => by simp at z, by decide, fun G24 l24 w24 el24 => ⟨by show 0 ≤ sizeLine; decide, fun t24 ht24 => ?_⟩⟩
    rw [faults0] at el24
    have w25 : Go T G24 (upd G24 t24 (.tup [])) := go_upd w24.2 ht24
    refine ⟨_, _, .tup (SqT.of (w25.t _ _ el24)) (dp_strs _), .tup (SqT.of upd_same) .nil, by decide +kernel, by decide +kernel, _, rfl, iteF' (by decide +kernel) ?_⟩
    have wf := (we.trans w24).trans w25
    have h25 := h21.trans wf
    have ra25 := ra21.ext wf (by simp) (by simp)
    have eu25 := wf.t _ _ eu21
    generalize upd G24 t24 (.tup []) = G25 at h25 ra25 eu25 wf ⊢
    clear w22 w23 w24 w25 we wf ht24 el24 hp5 hp6 ra21 eu21 h21 er21
    obtain ⟨⟨dx25, o25, hh25, bb25, er25, _⟩, _⟩ := id ra25
    refine ⟨_, rfl, r, dx25, _, rfl, er25, look_no (by decide +kernel), fun p7 hp7 => fun p8 hp8 => ?_⟩
    have w26 : Go T G25 (upd G25 p7 (.dK [])) := go_upd h25.2 hp7
    have w27 : Go T (upd G25 p7 (.dK [])) (upd (upd G25 p7 (.dK [])) p8 (.dK [])) := go_upd w26.2 hp8
    have wg := w26.trans w27
    refine ⟨r, d, p7, p8, [], [], ow0, [("main", 2)], 100000, [], [], "w", rfl, ra25.ext wg (by simp) (by simp), w27.at upd_same, upd_same, filesE, filesE, w27.2, fun _ z => by simp at z, fun _ z => by simp at z, fun _ z => by simp at z, fun G28 l28 w28 el28 => ⟨by show 1 ≤ sizeLine; decide, fun t28 ht28 => ?_⟩⟩
    rw [faults1] at el28
    have w29 : Go T G28 (upd G28 t28 (.tup [.str "empty"])) := go_upd w28.2 ht28
    refine ⟨_, _, .tup (SqT.of (w29.t _ _ el28)) (dp_strs _), .tup (SqT.of upd_same) (dp_strs ["empty"]), by decide +kernel, by decide +kernel, _, rfl, iteF' (by decide +kernel) ?_⟩
    have wh := (wg.trans w28).trans w29
    have h29 := h25.trans wh
    have ra29 := ra25.ext wh (by simp) (by simp)
    have eu29 := wh.t _ _ eu25
    generalize upd G28 t28 (.tup [.str "empty"]) = G29 at h29 ra29 eu29 wh ⊢
    clear w26 w27 w28 w29 wg wh ht28 el28 hp7 hp8 ra25 eu25 h25 er25
    -- lacks, not guarded
    obtain ⟨⟨dx29, o29, hh29, bb29, er29, _⟩, _⟩ := id ra29
    refine ⟨_, rfl, r, dx29, _, rfl, er29, look_no (by decide +kernel), fun p9 hp9 => ?_⟩
    have w30 : Go T G29 (upd G29 p9 (.dK [])) := go_upd h29.2 hp9
    intro pa hpa
    refine ⟨upd_same, [(Sum.inr "d/a", .str "1")], rfl, by decide, ?_⟩
    rw [upd_upd, show mergeK [] [((Sum.inr "d/a" : Key), V.str "1")] = fk [("d/a", "1")] by decide +kernel]
    have w31 : Go T (upd G29 p9 (.dK [])) (upd (upd G29 p9 (.dK [])) pa (.dK (fk [("d/a", "1")]))) := go_upd w30.2 hpa
    refine ⟨by show 0 ≤ sizeLine; decide, fun g2 hg2 => ?_⟩
    have w32 : Go T (upd (upd G29 p9 (.dK [])) pa (.dK (fk [("d/a", "1")]))) (upd (upd (upd G29 p9 (.dK [])) pa (.dK (fk [("d/a", "1")]))) g2 (.lst [])) := go_upd w31.2 hg2
    have wi := (w30.trans w31).trans w32
    refine ⟨r, d, p9, pa, g2, [], [("d/a", "1")], ow0, [("main", 2)], 100000, [], [], "side", "ann", [], rfl, ra29.ext wi (by simp) (by simp), (w31.trans w32).at upd_same, w32.at upd_same, filesE, filesD, small0, names0, w32.2, SqL.of upd_same, by decide, by decide, fun G33 l33 w33 el33 => ⟨by show 0 ≤ sizeLine; decide, fun t33 ht33 => ?_⟩⟩
    rw [lacks1] at el33
    have w34 : Go T G33 (upd G33 t33 (.tup [])) := go_upd w33.2 ht33
    refine ⟨_, _, .tup (SqT.of (w34.t _ _ el33)) (dp_strs _), .tup (SqT.of upd_same) .nil, by decide +kernel, by decide +kernel, _, rfl, iteF' (by decide +kernel) ?_⟩
    have wj := (wi.trans w33).trans w34
    have h34 := h29.trans wj
    have ra34 := ra29.ext wj (by simp) (by simp)
    have eu34 := wj.t _ _ eu29
    generalize upd G33 t33 (.tup []) = G34 at h34 ra34 eu34 wj ⊢
    clear w30 w31 w32 w33 w34 wi wj ht33 el33 hp9 hpa hg2 ra29 eu29 h29 er29
    -- own, nine names
    obtain ⟨⟨dx34, o34, hh34, bb34, er34, _⟩, _⟩ := id ra34
    refine ⟨_, rfl, r, dx34, _, rfl, er34, look_no (by decide +kernel), _, rfl, by show 2 ≤ sizeLine; decide, fun t1 ht1 => ⟨by show 1 ≤ sizeLine; decide, fun a ha => ?_⟩⟩
    have w35 : Go T G34 (upd G34 t1 (.tup [.str "**", .ref u])) := go_upd h34.2 ht1
    have w36 : Go T (upd G34 t1 (.tup [.str "**", .ref u])) (upd (upd G34 t1 (.tup [.str "**", .ref u])) a (.tup [.ref t1])) := go_upd w35.2 ha
    refine ⟨r, d, a, ow0, [("main", 2)], 100000, [], [], _, ow1, rfl, ra34.ext (w35.trans w36) (by simp) (by simp), w36.2, .inr (SqT.of upd_same), All2.nil.snoc ⟨t1, u, rfl, w36.t _ _ upd_same, .inr ((w35.trans w36).t _ _ eu34)⟩, by decide, fun _ G37 g37 ra37 => ?_, fun z => absurd z (by decide +kernel)⟩
    have h37 : Go T H G37 := GoE.news ((h34.trans w35).trans w36) g37 fun b hb => by rw [List.mem_singleton.mp hb]; exact fr
    clear g37 w35 w36 ha ht1 ra34 eu34 h34 er34
    -- told
    refine ⟨by rw [show (XP P w K mg base f cp A outer s H E).env.qual ++ "<lambda>" = lamP from plainQ]; exact h37.2.p, fun G38 fl b38 s38 l38 => ?_⟩
    have w38 : Go T G37 G38 := but_p h37.2 b38 (by rw [show lamP = (XP P w K mg base f cp A outer s H E).env.qual ++ "<lambda>" from plainQ.symm]; exact s38)
    obtain ⟨pm, c', ctv, q1, q2⟩ := l38
    refine ⟨fl, pm, c', ctv, rfl, q1, q2, q1, r, d, [("main", 2)], 100000, [], [], rfl, ra37.ext w38 (by simp) (by simp), w38.2, fun G39 w39 => ⟨true, m.X.caught, fun _ => ⟨rfl, _, rfl, iteF' (by decide) ?_⟩, fun q => nomatch q⟩⟩
    have h39 := (h37.trans w38).trans w39
    have ra39 := ra37.ext (w38.trans w39) (by simp) (by simp)
    clear q1 q2 s38 b38 w38 w39 ra37 h37
    -- the end
    obtain ⟨⟨dx39, o39, hh39, bb39, er39, _⟩, _⟩ := id ra39
    refine ⟨_, rfl, r, dx39, _, rfl, er39, look_no (by decide +kernel), r, d, "main", 0, ow1, [("main", 2)], 100000, [], [], rfl, ra39, h39.2, by decide, fun _ G40 g40 ra40 => ?_, fun z => absurd z (by decide +kernel)⟩
    have ra40 : RAt C G40 r d ow1 [] 100000 [] [] := by
      have e : gSet [("main", 2)] "main" 0 = ([] : Gs) := by decide +kernel
      rw [e] at ra40
      exact ra40
    have h40 : Go T H G40 := GoE.news h39 g40 fun b hb => by rw [List.mem_singleton.mp hb]; exact fdH
    clear g40 ra39 h39 er39
    obtain ⟨⟨dx40, o40, hh40, bb40, er40, _⟩, ed40⟩ := id ra40
    refine ⟨rfl, _, rfl, (if_pos (by decide)).mpr ⟨_, rfl, r, C, dx40, _, _, rfl, er40, m.L.cl, m.L.nG, look_g, fun p hp => ?_⟩⟩
    have w41 : Go T G40 (upd G40 p (.dK [])) := go_upd h40.2 hp
    refine ⟨d, p, [], rfl, rfl, w41.at ed40, upd_same, by decide, by decide, _, rfl, (if_pos rfl).mpr ?_⟩
    have h41 := h40.trans w41
    have ra41 := ra40.ext w41 (by simp) (by simp)
    generalize upd G40 p (.dK []) = G41 at h41 ra41 w41 ⊢
    clear w41 hp ra40 h40 er40 ed40
    obtain ⟨⟨dx41, o41, hh41, bb41, er41, _⟩, _⟩ := id ra41
    refine ⟨_, rfl, r, dx41, _, rfl, er41, look_no (by decide +kernel), fun p1 hp1 => ?_⟩
    have w42 : Go T G41 (upd G41 p1 (.dK [])) := go_upd h41.2 hp1
    intro p2 hp2
    refine ⟨upd_same, [(Sum.inr "a", .str "1")], rfl, by decide, ?_⟩
    rw [upd_upd, show mergeK [] [((Sum.inr "a" : Key), V.str "1")] = fk [("a", "1")] by decide +kernel]
    have w43 : Go T (upd G41 p1 (.dK [])) (upd (upd G41 p1 (.dK [])) p2 (.dK (fk [("a", "1")]))) := go_upd w42.2 hp2
    have wk := w42.trans w43
    have n0 : (R.so (linesOf (need ow1 [] [("a", "1")]) "p3").flatten).length = 0 := by
      rw [lines3]
      exact Nat.le_zero.mp (so_len [])
    refine ⟨r, d, p1, p2, [], [("a", "1")], ow1, [], 100000, [], [], "p3", rfl, ra41.ext wk (by simp) (by simp), w43.at upd_same, upd_same, filesE, filesA1, small1, names1, by rw [lines3]; decide, w43.2, fun z => absurd (n0 ▸ z) (by decide), fun _ G44 l44 pp w44 el44 few => ⟨by show 0 ≤ sizeLine; decide, fun t44 ht44 => ?_⟩⟩
    obtain rfl := few3 few
    have w45 : Go T G44 (upd G44 t44 (.tup [])) := go_upd w44.2 ht44
    refine ⟨_, _, .tup (SqT.of (w45.t _ _ el44)) (dp_strs _), .tup (SqT.of upd_same) .nil, by decide +kernel, by decide +kernel, ?_⟩
    rw [show PyData.eqv (.tuple (([] : List Str).map PyData.str)) (.tuple []) = true by decide +kernel]
    exact k1 _ (((h41.trans wk).trans w44).trans w45)
end
end R
end Text_R25
section Text_R26
set_option Elab.async false
set_option linter.all false
set_option maxRecDepth 100000
set_option maxHeartbeats 4000000
namespace R
open PySem PySem.Spec PyProof.Rows L2 Gx GxR LamY LamZ

/-! ### the law's frame -/
def noE : Expr := .Constant .none 0 ⟨0, 0, 0, 0⟩
def forBody : Stmt → List Stmt
  | .For _ _ b _ _ => b
  | _ => []
def asgE : Stmt → Expr
  | .Assign _ e _ => e
  | _ => noE
def compSc : Expr → Scope
  | .ListComp _ _ sc _ => sc
  | _ => defScope sLaw
def lawBody : List Stmt := forBody ((defBody sLaw).getD 1 noS)
abbrev NA : List Str := ["script", "people", "dice", "guarded", "k", "name", "rows", "step", "good", "one", "most", "heads", "barred", "pattern", "names", "other", "who", "agreed", "paths", "path", "need", "others", "branch", "due", "words", "head", "lines", "row", "sets", "many", "rules"]
theorem scA : FnScope NA ["script"] (defScope sLaw) := ⟨rfl, rfl, rfl, by decide +kernel, rfl, by decide +kernel, by decide +kernel⟩
/-- where the law's own defs stand -/
structure LD where
  fR : Addr
  fD : Addr
  fF : Addr
  fC : Addr
  fW : Addr
  fS : Addr
  fP : Addr
  fT : Addr
  fX : Addr
  dR : FuncData
  dD : FuncData
  dF : FuncData
  dC : FuncData
  dW : FuncData
  dS : FuncData
  dP : FuncData
  dT : FuncData
  dX : FuncData
/-- with their promises; fits too -/
structure La (P : Program) (w : World) (K : PySem.W.Frag) (mg : Str → Option Value) (base : Heap) (T : Tb) (CS : Addr) (N : LD) : Prop where
  GR : FnOk P w K mg base CX0 2 N.fR N.dR ["script", "most"] (spRounds K T)
  mR : mg "_law_rounds" = some (.ref N.fR)
  kR : PySem.W.keepIn K (.ref N.fR) = true
  bR : Binds K N.dR ["script", "most"] []
  GD : FnOk P w K mg base CX0 1 N.fD N.dD ["dice", "many"] spRoll
  mD : mg "_law_roll" = some (.ref N.fD)
  kD : PySem.W.keepIn K (.ref N.fD) = true
  bD : Binds K N.dD ["dice", "many"] []
  GF : FnOk P w K mg base CX0 2 N.fF N.dF ["dice"] (spLFiles T)
  mF : mg "_law_files" = some (.ref N.fF)
  kF : PySem.W.keepIn K (.ref N.fF) = true
  bF : Binds K N.dF ["dice"] []
  GC : FnOk P w K mg base CX0 1 N.fC N.dC ["one", "other"] (spLChg T)
  mC : mg "_law_changed" = some (.ref N.fC)
  kC : PySem.W.keepIn K (.ref N.fC) = true
  bC : Binds K N.dC ["one", "other"] []
  GW : FnOk P w K mg base CX0 19 N.fW N.dW ["rows", "path"] (spLOwn K T)
  mW : mg "_law_owners" = some (.ref N.fW)
  kW : PySem.W.keepIn K (.ref N.fW) = true
  bW : Binds K N.dW ["rows", "path"] []
  GS : FnOk P w K mg base CX0 1 N.fS N.dS ["names"] (spLSets K T)
  mS : mg "_law_sets" = some (.ref N.fS)
  kS : PySem.W.keepIn K (.ref N.fS) = true
  bS : Binds K N.dS ["names"] []
  GP : FnOk P w K mg base CX0 24 N.fP N.dP [] (spPlain T)
  mP : mg "_law_plain" = some (.ref N.fP)
  kP : PySem.W.keepIn K (.ref N.fP) = true
  bP : Binds K N.dP [] []
  t : Tol K mg CS N.fT N.dT
  GX : FnOk P w K mg base CX0 18 N.fX N.dX ["pattern", "path"] (spFits T 8)
  mX : mg "fits" = some (.ref N.fX)
  kX : PySem.W.keepIn K (.ref N.fX) = true
  bX : Binds K N.dX ["pattern", "path"] []
abbrev lawCx (P : Program) (w : World) (K : PySem.W.Frag) (mg : Str → Option Value) (base : Heap) (f : Addr) (cdv : Value) (A : Around) (outer : List Env) (s : Shared) (H : Hp) (E : XK) : Cx := (cxOf CX0 P w K mg base NA "law" (defScope sLaw) f cdv A outer s H E).nox
theorem ix_listK {X : Cx} (K : PySem.W.Frag) (hK : X.K = K) : IxR X (rIxL K) := by
  rw [← hK]
  exact ix_list
theorem roll_go {T : Tb} {S : List Addr} {d : Addr} {H G : Hp} {xs : List V} (g : GoE T S H G) (hd : d ∈ S) (dk : DiceAt G d) (dv : DiceV xs) : GoE T S H (upd G d (.lst xs)) ∧ DiceAt (upd G d (.lst xs)) d := by
  obtain ⟨ys, e, _⟩ := dk
  exact ⟨g.trans (go_set g.2 e mu_lst hd), _, upd_same, dv⟩
theorem DiceAt.go {T : Tb} {d : Addr} {H G : Hp} (dk : DiceAt H d) (g : Go T H G) : DiceAt G d := by
  obtain ⟨ys, e, k⟩ := dk
  exact ⟨ys, g.at e, k⟩
theorem DiceAt.goS {T : Tb} {S : List Addr} {d : Addr} {H G : Hp} (dk : DiceAt H d) (g : GoE T S H G) (n : d ∉ S) : DiceAt G d := by
  obtain ⟨ys, e, k⟩ := dk
  exact ⟨ys, g.at e n, k⟩
theorem DiceAt.ne {H : Hp} {d D : Addr} (h : DiceAt H d) (hD : H D = none) : D ≠ d := fun z => by
  obtain ⟨xs, ed, _⟩ := h
  rw [← z, hD] at ed
  cases ed
/-- a list that holds no number at its head isn't the dice -/
theorem DiceAt.nl {H : Hp} {d b : Addr} {xs : List V} (h : DiceAt H d) (e : H b = some (.lst xs)) (n : ∀ x ∈ xs, ∀ i, x ≠ .int i) : b ≠ d := fun z => by
  obtain ⟨ys, ed, a, b2, c, rfl⟩ := h
  rw [z, ed] at e
  have := HO.lst.inj (Option.some.inj e)
  exact n (.int a) (by rw [← this]; exact List.mem_cons_self) a rfl
theorem DiceAt.nd {H : Hp} {d b : Addr} {o : HO} (h : DiceAt H d) (e : H b = some o) (n : ∀ xs, o ≠ .lst xs := by intro _ z; cases z) : b ≠ d := fun z => by
  obtain ⟨ys, ed, _⟩ := h
  rw [z, ed] at e
  exact n ys (Option.some.inj e).symm
theorem strs_no (l : List Str) : ∀ x ∈ l.map V.str, ∀ i, x ≠ .int i := fun x hx i z => by
  obtain ⟨y, _, rfl⟩ := List.mem_map.mp hx
  cases z
def ppl : List Str := ["ann", "bob", "cy", "di"]
def pats : List Str := ["**", "d/**", "d/x", "*.o", "a"]
def OwOk (ow : Owns) : Prop := ∀ q ∈ ow, q.1 ∈ pats ∧ q.2.Sublist ppl
theorem pats_ok : ∀ p ∈ pats, p.cps.toList.length ≤ 8 ∧ p ≠ "" := by decide +kernel
theorem ppl_ok : ∀ n ∈ ppl, PyData.strOk n = true ∧ n ≠ "" := by decide +kernel
theorem OwOk.small {ow : Owns} (h : OwOk ow) (hl : ow.length ≤ 4) : small ow := ⟨by omega, fun q hq => ⟨(pats_ok q.1 (h q hq).1).1, by
  have := (h q hq).2.length_le
  have : ppl.length = 4 := rfl
  omega⟩⟩
theorem OwOk.names {ow : Owns} (h : OwOk ow) : namesOk ow := fun q hq n hn => (ppl_ok n ((h q hq).2.subset hn)).1
theorem OwOk.rows {ow : Owns} (h : OwOk ow) : ow.all rowOk = true := by
  rw [List.all_eq_true]
  intro q hq
  unfold rowOk
  rw [decide_eq_false (pats_ok q.1 (h q hq).1).2, decide_eq_false fun z => (ppl_ok "" ((h q hq).2.subset z)).2 rfl]
  rfl
/-- a row of owners, its names apart from B -/
def RowN (B : List Addr) (H : Hp) (v : V) (r : Str × List Str) : Prop := ∃ t u, v = .ref t ∧ H t = some (.tup [.str r.1, .ref u]) ∧ H u = some (.lst (r.2.map V.str)) ∧ u ∉ B
theorem RowN.ext {T : Tb} {S B : List Addr} {H H' : Hp} {v : V} {r : Str × List Str} (h : RowN B H v r) (g : GoE T S H H') (k : ∀ b ∈ S, b ∈ B) : RowN B H' v r := by
  obtain ⟨t, u, a, b, c, n⟩ := h
  exact ⟨t, u, a, g.t _ _ b, g.at c fun m => n (k u m), n⟩
theorem RowN.l {B : List Addr} {H : Hp} {v : V} {r : Str × List Str} (h : RowN B H v r) : RowL H v r := let ⟨t, u, a, b, c, _⟩ := h; ⟨t, u, a, b, c⟩
/-- what is in S holds no texts -/
theorem RowL.ex {T : Tb} {S : List Addr} {H H' : Hp} {v : V} {r : Str × List Str} (h : RowL H v r) (g : GoE T S H H') (k : ∀ b ∈ S, ∃ o, H b = some o ∧ ∀ ns : List Str, o ≠ .lst (ns.map V.str)) : RowL H' v r := by
  obtain ⟨t, u, a, b, c⟩ := h
  refine ⟨t, u, a, g.t _ _ b, g.at c fun m => ?_⟩
  obtain ⟨o, e, n⟩ := k u m
  rw [c] at e
  exact n _ (Option.some.inj e).symm
theorem DiceAt.nt {H : Hp} {d : Addr} (h : DiceAt H d) : ∃ o, H d = some o ∧ ∀ ns : List Str, o ≠ .lst (ns.map V.str) := by
  obtain ⟨ys, e, a, b, c, rfl⟩ := h
  refine ⟨_, e, fun ns z => ?_⟩
  cases ns with
  | nil => cases z
  | cons n r =>
    have := HO.lst.inj z
    cases this
theorem rows_no {H : Hp} {xs : List V} {ow : Owns} (h : All2 (RowL H) xs ow) : ∀ x ∈ xs, ∀ i, x ≠ .int i := fun x hx i z => by
  obtain ⟨j, hj, e⟩ := List.getElem_of_mem hx
  obtain ⟨q, _, t, u, e2, _⟩ := h.at (List.getElem?_eq_getElem hj)
  rw [e, z] at e2
  cases e2
section
variable {P : Program} {w : World} {K : PySem.W.Frag} {mg : Str → Option Value} {base : Heap} {T : Tb} {C CR CS : Addr} {M : MD} {N : LD}
variable {f : Addr} {cdv : Value} {A : Around} {outer : List Env} {s : Shared} {H0 : Hp} {E : XK}
/-- rules, guarded = Rules(), {} -/
theorem st0 (hr : Room 24 (A.deeper (envOfC "law" (defScope sLaw) s.heap.objs.size f cdv))) (m : Ms P w K mg base T C CR CS M) :
    ∃ t, PS (lawCx P w K mg base f cdv A outer s H0 E) (lawBody.getD 0 noS) t ∧ ∀ (D : Ends) (v0 v1 v2 v4 v5 v6 v7 v8 v9 v10 v11 v12 v13 v14 v15 v16 v17 v18 v19 v20 v21 v22 v23 v24 v25 v26 v27 v28 v29 : Option V) (u3 u30 : Option V) (H : Hp), TOk T H →
      (∀ (H' : Hp) (r dg gd : Addr), Go T H H' → Fresh H r → Fresh H dg → gd ≠ dg → RAt C H' r dg [] [] 100000 [] [] → H' gd = some (.dK []) → D.nx [v0, v1, v2, some (.ref gd), v4, v5, v6, v7, v8, v9, v10, v11, v12, v13, v14, v15, v16, v17, v18, v19, v20, v21, v22, v23, v24, v25, v26, v27, v28, v29, some (.ref r)] H') →
      t D [v0, v1, v2, u3, v4, v5, v6, v7, v8, v9, v10, v11, v12, v13, v14, v15, v16, v17, v18, v19, v20, v21, v22, v23, v24, v25, v26, v27, v28, v29, u30] H := by
  refine ⟨_, ps_asg (pe_tup (pa_cons (pe_make0 m.mm m.GI (hr.mono (by decide)) rfl m.L.mgC m.bI .nil pass0) (pa_cons pe_dnewK pa_nil))) (pg_tup rfl (pgs_cons (pg_name (i := 30) scA.nd rfl (Or.inr rfl)) (pgs_cons (pg_name (i := 3) scA.nd rfl (Or.inr rfl)) pgs_nil))), fun D v0 v1 v2 v4 v5 v6 v7 v8 v9 v10 v11 v12 v13 v14 v15 v16 v17 v18 v19 v20 v21 v22 v23 v24 v25 v26 v27 v28 v29 u3 u30 H tk k1 => ?_⟩
  refine fun r dx hr0 hdx ne => ?_
  have w0a : Go T H (upd H dx (.own r)) := go_upd tk hdx
  have w0 : Go T H (upd (upd H dx (.own r)) r (.ins C dx [])) := w0a.trans (go_upd w0a.2 (by rw [upd_ne (Ne.symm ne)]; exact hr0))
  have fr : Fresh H r := fresh_none hr0
  refine ⟨r, dx, rfl, upd_same, w0.2, fun H1 d g1 fd ra1 => ⟨rfl, ?_⟩⟩
  have fdH : Fresh H d := fun u e => by
    refine Classical.byContradiction fun nt => ?_
    have nt : ∀ ps, u ≠ .tbl ps := fun ps z => nt ⟨ps, z⟩
    obtain ⟨ps, z⟩ := fd u (w0.1 d u e nt (.inl (by simp)))
    exact nt ps z
  have h1 : Go T H H1 := GoE.news w0 g1 fun b hb => by rw [List.mem_singleton.mp hb]; exact fr
  intro gd hgd
  have w2 : Go T H1 (upd H1 gd (.dK [])) := go_upd h1.2 hgd
  have nd : gd ≠ d := (ne_of_none ra1.gd hgd).symm
  refine ⟨by show 2 ≤ sizeLine; decide, fun p hp => ⟨p, _, rfl, SqT.of upd_same, rfl, _, _, rfl, _, _, rfl, rfl, ?_⟩⟩
  have w3 : Go T (upd H1 gd (.dK [])) (upd (upd H1 gd (.dK [])) p (.tup [.ref r, .ref gd])) := go_upd w2.2 hp
  exact k1 _ r d gd ((h1.trans w2).trans w3) fr fdH nd (ra1.ext (w2.trans w3) (by simp) (by simp)) (w3.at upd_same)
end
end R
end Text_R26
section Text_R27
set_option Elab.async false
set_option linter.all false
set_option maxRecDepth 100000
set_option maxHeartbeats 4000000
namespace R
open PySem PySem.Spec PyProof.Rows L2 Gx GxR LamY LamZ
section
variable {P : Program} {w : World} {K : PySem.W.Frag} {mg : Str → Option Value} {base : Heap} {T : Tb} {C CR CS : Addr} {M : MD} {N : LD}
variable {f : Addr} {cdv : Value} {A : Around} {outer : List Env} {s : Shared} {H0 : Hp} {E : XK}

def scR1 : Scope := compSc (asgE (lawBody.getD 1 noS))
theorem ppl_at {i : Int} (h0 : 0 ≤ i) (h1 : i < 5) : ∃ p, pats[i.toNat]? = some p ∧ atI (pats.map V.str) i = some (.str p) := by
  have hl : i.toNat < pats.length := by show i.toNat < 5; omega
  refine ⟨_, List.getElem?_eq_getElem hl, ?_⟩
  unfold atI ixN
  rw [if_pos h0, if_pos (by show i < 5; omega)]
  show (pats.map V.str)[i.toNat]? = _
  rw [List.getElem?_map, List.getElem?_eq_getElem hl]
  rfl
/-- rows = [(pattern, names) ..] -/
theorem st1 (hr : Room 24 (A.deeper (envOfC "law" (defScope sLaw) s.heap.objs.size f cdv))) (m : Ms P w K mg base T C CR CS M) (l : La P w K mg base T CS N) :
    ∃ t, PS (lawCx P w K mg base f cdv A outer s H0 E) (lawBody.getD 1 noS) t ∧ ∀ (D : Ends) (d p : Addr) (v0 v3 v4 v5 v7 v8 v9 v10 v11 v12 v13 v14 v15 v16 v17 v18 v19 v20 v21 v22 v23 v24 v25 v26 v27 v28 v29 v30 : Option V) (u6 : Option V) (H : Hp), TOk T H → DiceAt H d → H p = some (.lst (ppl.map V.str)) →
      (∀ (H' : Hp) (rl : Addr) (xs : List V) (ow : Owns), GoE T [d] H H' → DiceAt H' d → H' rl = some (.lst xs) → All2 (RowL H') xs ow → ow.length ≤ 4 → OwOk ow → D.nx [v0, some (.ref p), some (.ref d), v3, v4, v5, some (.ref rl), v7, v8, v9, v10, v11, v12, v13, v14, v15, v16, v17, v18, v19, v20, v21, v22, v23, v24, v25, v26, v27, v28, v29, v30] H') →
      t D [v0, some (.ref p), some (.ref d), v3, v4, v5, u6, v7, v8, v9, v10, v11, v12, v13, v14, v15, v16, v17, v18, v19, v20, v21, v22, v23, v24, v25, v26, v27, v28, v29, v30] H := by
  refine ⟨_, ps_set (i := 6) scA.nd rfl (Or.inr rfl) (pe_lc (own := [("k", 4)]) (g := gName 4) (tt := tYes) rfl scA.nd (pi_range1 rfl m.Y.range (pa_cons (pe_call l.GD (hr.mono (by decide)) rfl l.mD l.kD l.bD .nil pass0 (pa_cons (pv 2) (pa_cons pe_int pa_nil))) pa_nil))
      (blkOk_by (N := NA) (sc := defScope sLaw) (by decide +kernel)) (fun _ _ _ _ _ => pg_name (i := 4) scA.nd rfl (Or.inl rfl) (Or.inr rfl)) (fun _ _ _ _ _ => pts_nil)
      (fun _ _ _ _ _ => pe_tup (pa_cons (pe_ix (ix_listK K rfl) (pe_lst (pa_cons pe_str (pa_cons pe_str (pa_cons pe_str (pa_cons pe_str (pa_cons pe_str pa_nil)))))) (pe_call l.GD (hr.mono (by decide)) rfl l.mD l.kD l.bD .nil pass0 (pa_cons (pv 2) (pa_cons pe_int pa_nil))) (fun _ _ => rfl))
        (pa_cons (pe_lc (own := [("name", 5)]) (g := gName 5) rfl scA.nd (pi_listK K rfl (pv 1)) (blkOk_by (N := NA) (sc := relS scR1 (defScope sLaw)) (by decide +kernel)) (fun _ _ _ _ _ => pg_name (i := 5) scA.nd rfl (Or.inl rfl) (Or.inr rfl))
          (fun _ _ _ _ _ => pts_one (pt_cmpR op_eq (pe_call l.GD (hr.mono (by decide)) rfl l.mD l.kD l.bD .nil pass0 (pa_cons (pv 2) (pa_cons pe_int pa_nil))) pe_int (nomark _))) (fun _ _ _ _ _ => pv 5)) pa_nil)))), fun D d p v0 v3 v4 v5 v7 v8 v9 v10 v11 v12 v13 v14 v15 v16 v17 v18 v19 v20 v21 v22 v23 v24 v25 v26 v27 v28 v29 v30 u6 H tk dk hp k1 => ?_⟩
  refine ⟨_, rfl, d, 5, rfl, by decide, by decide, dk, fun r0 xs0 h0 h5 dv0 => ⟨r0, rfl, by omega, by omega, fun D1 hD1 => ?_⟩⟩
  obtain ⟨g0, dk0⟩ := roll_go (S := [d]) (GoE.refl tk) (by simp) dk dv0
  have npd : p ≠ d := dk.nl hp (strs_no _)
  have hp0 := g0.at hp (by simpa using npd)
  have n1 : D1 ≠ d := dk0.ne hD1
  have hD1f : Fresh H D1 := fresh_ofE g0 hD1 (by simpa using n1)
  have w1 : Go T (upd H d (.lst xs0)) (upd (upd H d (.lst xs0)) D1 (.lst [])) := go_upd g0.2 hD1
  have npD : p ≠ D1 := ne_of_none hp0 hD1
  have dk1 := dk0.go w1
  have hp1 := w1.at hp0
  refine lc_range (lo := 0) (n := r0.toNat) (fun i G => GoE T [d, D1] (upd (upd H d (.lst xs0)) D1 (.lst [])) G ∧ DiceAt G d ∧ ∃ xs ow, G D1 = some (.lst xs) ∧ All2 (RowN [d, D1] G) xs ow ∧ ow.length = i ∧ OwOk ow) ⟨GoE.refl w1.2, dk1, [], [], upd_same, All2.nil, rfl, fun q hq => by simp at hq⟩ (fun i G hi h => ?_) (fun G h => ?_)
  · obtain ⟨g, dkG, xs, ow, eD, al, hl, ok⟩ := h
    have hpG := g.at hp1 (by simp [npd, npD])
    refine ⟨rfl, by show 5 ≤ sizeLine; decide, fun q hq => ⟨_, rfl, d, 5, rfl, by decide, by decide, ?_, fun r1 xs1 h0 h5 dv1 => ?_⟩⟩
    · obtain ⟨ys, e, k⟩ := dkG
      exact ⟨ys, by rw [upd_ne (ne_of_none e hq)]; exact e, k⟩
    have w2 : Go T G (upd G q (.lst (pats.map V.str))) := go_upd g.2 hq
    have dk2 := dkG.go w2
    have nqd : q ≠ d := dkG.ne hq
    have eq2 : upd G q (.lst (pats.map V.str)) q = some (.lst (pats.map V.str)) := upd_same
    have eD2 := w2.at eD
    have hp2 := w2.at hpG
    have al2 := al.imp fun _ _ h => h.ext w2 (by simp)
    have g2 := g.trans (Go.any w2)
    show rIxL K (.ref q) (.int r1) (upd (upd G q (.lst (pats.map V.str))) d (.lst xs1)) _
    generalize upd G q (.lst (pats.map V.str)) = G2 at w2 dk2 eq2 eD2 hp2 al2 g2 ⊢
    obtain ⟨g3, dk3⟩ := roll_go g2 (by simp) dk2 dv1
    have w3 : GoE T [d] G2 (upd G2 d (.lst xs1)) := (roll_go (S := [d]) (GoE.refl w2.2) (by simp) dk2 dv1).1
    have eq3 := w3.at eq2 (by simpa using nqd)
    have eD3 := w3.at eD2 (by simpa using n1)
    have hp3 := w3.at hp2 (by simpa using npd)
    have al3 := al2.imp fun _ _ h => h.ext w3 (by simp)
    generalize upd G2 d (.lst xs1) = G3 at g3 dk3 w3 eq3 eD3 hp3 al3 ⊢
    obtain ⟨pt, hpt, eat⟩ := ppl_at h0 h5
    refine ⟨q, _, _, _, rfl, rfl, SqL.of eq3, eat, _, rfl, p, rfl, ⟨_, SqL.of hp3⟩, fun D2 hD2 => ?_⟩
    have n2d : D2 ≠ d := dk3.ne hD2
    have n2D : D2 ≠ D1 := (ne_of_none eD3 hD2).symm
    have w4 : Go T G3 (upd G3 D2 (.lst [])) := go_upd g3.2 hD2
    have np2 : p ≠ D2 := ne_of_none hp3 hD2
    have hD2f : Fresh G3 D2 := fresh_none hD2
    refine lc_list (xs := ppl.map V.str) (fun j G4 => GoE T [d, D2] (upd G3 D2 (.lst [])) G4 ∧ DiceAt G4 d ∧ ∃ ns : List Str, G4 D2 = some (.lst (ns.map V.str)) ∧ ns.Sublist (ppl.take j)) ⟨GoE.refl w4.2, dk3.go w4, [], upd_same, List.Sublist.refl _⟩ (fun j G4 _ h => h.1.seq (SqL.of (w4.at hp3)) (by simp [npd, np2])) (fun j x G4 hx h => ?_) (fun G4 h => ?_)
    · obtain ⟨g4, dk4, ns, e4, sub⟩ := h
      obtain ⟨y, hy, rfl⟩ := str_at hx
      refine ⟨rfl, _, rfl, d, 3, rfl, by decide, by decide, dk4, fun r4 xs4 _ _ dv4 => ⟨rfl, _, rfl, ?_⟩⟩
      obtain ⟨g5, dk5⟩ := roll_go g4 (by simp) dk4 dv4
      have e5 : upd G4 d (.lst xs4) D2 = some (.lst (ns.map V.str)) := by rw [upd_ne n2d]; exact e4
      have hl4 : ns.length ≤ 4 := by
        have h1 := sub.length_le
        rw [List.length_take] at h1
        have : ppl.length = 4 := rfl
        omega
      refine ite2 (fun _ => ⟨_, rfl, _, e5, by rw [List.length_map, sizeLine_eq]; omega, ?_⟩) (fun _ => ⟨g5, dk5, ns, e5, ?_⟩)
      · have w6 : GoE T [d, D2] (upd G4 d (.lst xs4)) (upd (upd G4 d (.lst xs4)) D2 (.lst (ns.map V.str ++ [.str y]))) := go_set g5.2 e5 mu_lst (by simp)
        refine ⟨g5.trans w6, ?_, ns ++ [y], by rw [upd_same, List.map_append]; rfl, ?_⟩
        · obtain ⟨ys, e, k⟩ := dk5
          exact ⟨ys, by rw [upd_ne (Ne.symm n2d)]; exact e, k⟩
        · rw [take_snoc hy]
          exact sub.append (List.Sublist.refl _)
      · rw [take_snoc hy]
        exact sub.trans (List.sublist_append_left _ _)
    · obtain ⟨g4, dk4, ns, e4, sub⟩ := h
      rw [List.length_map, List.take_length] at sub
      have r4 : GoE T [d] G3 G4 := by
        refine ⟨fun b o e nt mm => g4.1 b o (w4.1 b o e nt (.inl (by simp))) nt ?_, g4.2⟩
        rcases mm with mm | mm
        · refine .inl ?_
          have : b ≠ D2 := fun z => by
            rw [z, hD2] at e
            cases e
          simp only [List.mem_cons, List.not_mem_nil, or_false, not_or] at mm ⊢
          exact ⟨mm, this⟩
        · exact .inr mm
      have eD5 := r4.at eD3 (by simpa using n1)
      have al5 := al3.imp fun _ _ h => h.ext r4 (by simp)
      refine ⟨by show 2 ≤ sizeLine; decide, fun t ht => ?_⟩
      have w5 : Go T G4 (upd G4 t (.tup [.str pt, .ref D2])) := go_upd g4.2 ht
      have eD6 := w5.at eD5
      have al6 := al5.imp fun _ _ h => h.ext w5 (by simp)
      have et : upd G4 t (.tup [.str pt, .ref D2]) t = some (.tup [.str pt, .ref D2]) := upd_same
      have e46 := w5.at e4
      have dk6 := dk4.go w5
      have g6 : GoE T [d, D1] (upd (upd H d (.lst xs0)) D1 (.lst [])) (upd G4 t (.tup [.str pt, .ref D2])) := g3.trans ((r4.mono (by simp)).trans (Go.any w5))
      generalize upd G4 t (.tup [.str pt, .ref D2]) = G6 at w5 eD6 al6 et e46 dk6 g6 ⊢
      have w7 : GoE T [d, D1] G6 (upd G6 D1 (.lst (xs ++ [.ref t]))) := go_set g6.2 eD6 mu_lst (by simp)
      refine ⟨xs, eD6, by rw [al.1, hl, sizeLine_eq]; omega, g6.trans w7, ?_, _, ow ++ [(pt, ns)], upd_same, ?_, by rw [List.length_append, hl]; rfl, ?_⟩
      · obtain ⟨ys, e, k⟩ := dk6
        exact ⟨ys, by rw [upd_ne (Ne.symm n1)]; exact e, k⟩
      · exact (al6.imp fun _ _ h => h.ext w7 (by simp)).snoc ⟨t, D2, rfl, w7.t _ _ et, by rw [upd_ne n2D]; exact e46, by simp [n2d, n2D]⟩
      · intro q hq
        rcases List.mem_append.mp hq with z | z
        · exact ok q z
        · rw [List.mem_singleton.mp z]
          exact ⟨List.mem_of_getElem? hpt, sub⟩
  · obtain ⟨g, dkG, xs, ow, eD, al, hl, ok⟩ := h
    have gr : GoE T [d] H G := by
      refine ⟨fun b o e nt mm => g.1 b o (w1.1 b o (g0.1 b o e nt mm) nt (.inl (by simp))) nt ?_, g.2⟩
      rcases mm with mm | mm
      · refine .inl ?_
        have : b ≠ D1 := fun z => by
          rw [z] at e
          obtain ⟨ps, e2⟩ := hD1f o e
          exact nt ps e2
        simp only [List.mem_cons, List.not_mem_nil, or_false, not_or] at mm ⊢
        exact ⟨mm, this⟩
      · exact .inr mm
    exact k1 G D1 xs ow gr dkG eD (al.imp fun _ _ h => h.l) (by omega) ok
/-- rules.own(rows) -/
theorem st2 (hr : Room 24 (A.deeper (envOfC "law" (defScope sLaw) s.heap.objs.size f cdv))) (m : Ms P w K mg base T C CR CS M) :
    ∃ t, PS (lawCx P w K mg base f cdv A outer s H0 E) (lawBody.getD 2 noS) t ∧ ∀ (D : Ends) (r dg rl : Addr) (xs : List V) (ow ow0 : Owns) (gs : Gs) (ms : Int) (hs bs : List Str) (v0 v1 v2 v3 v4 v5 v7 v8 v9 v10 v11 v12 v13 v14 v15 v16 v17 v18 v19 v20 v21 v22 v23 v24 v25 v26 v27 v28 v29 : Option V) (H : Hp), TOk T H → RAt C H r dg ow0 gs ms hs bs → H rl = some (.lst xs) → All2 (RowL H) xs ow → ow.length ≤ 4 → OwOk ow →
      (∀ (H' : Hp), GoE T [r] H H' → RAt C H' r dg ow gs ms hs bs → D.nx [v0, v1, v2, v3, v4, v5, some (.ref rl), v7, v8, v9, v10, v11, v12, v13, v14, v15, v16, v17, v18, v19, v20, v21, v22, v23, v24, v25, v26, v27, v28, v29, some (.ref r)] H') →
      t D [v0, v1, v2, v3, v4, v5, some (.ref rl), v7, v8, v9, v10, v11, v12, v13, v14, v15, v16, v17, v18, v19, v20, v21, v22, v23, v24, v25, v26, v27, v28, v29, some (.ref r)] H := by
  refine ⟨_, ps_expr (pe_meth (pv 30) m.L.cl m.mO m.GO (hr.mono (by decide)) m.bO .nil passN (pa_cons (pv 6) pa_nil)), fun D r dg rl xs ow ow0 gs ms hs bs v0 v1 v2 v3 v4 v5 v7 v8 v9 v10 v11 v12 v13 v14 v15 v16 v17 v18 v19 v20 v21 v22 v23 v24 v25 v26 v27 v28 v29 H tk ra erl al hl ok k1 => ?_⟩
  obtain ⟨⟨dx, o, hh, bb, er, _⟩, _⟩ := id ra
  exact ⟨_, rfl, r, dx, _, rfl, er, look_no (by decide +kernel), _, rfl, r, dg, rl, ow0, gs, ms, hs, bs, xs, ow, rfl, ra, tk, .inl (SqL.of erl), al.imp fun _ _ h => by
    obtain ⟨t, u, a, b, c⟩ := h
    exact ⟨t, u, a, b, .inl (SqL.of c)⟩, by omega, fun _ H' g' ra' => k1 H' g' ra', fun z => absurd z (by rw [ok.rows]; decide)⟩
end
end R
end Text_R27
section Text_R28
set_option Elab.async false
set_option linter.all false
set_option maxRecDepth 100000
set_option maxHeartbeats 4000000
namespace R
open PySem PySem.Spec PyProof.Rows L2 Gx GxR LamY LamZ

def stepBody : List Stmt := forBody (lawBody.getD 3 noS)
def br3 : List Str := ["main", "side", ""]
theorem br_at {i : Int} (h0 : 0 ≤ i) (h1 : i < 7) : ∃ p : Str, (p = "main" ∨ p = "side" ∨ p = "") ∧ atI (br3.map V.str) (i / 3) = some (.str p) := by
  have : i = 0 ∨ i = 1 ∨ i = 2 ∨ i = 3 ∨ i = 4 ∨ i = 5 ∨ i = 6 := by omega
  rcases this with rfl | rfl | rfl | rfl | rfl | rfl | rfl
  · exact ⟨_, .inl rfl, rfl⟩
  · exact ⟨_, .inl rfl, rfl⟩
  · exact ⟨_, .inl rfl, rfl⟩
  · exact ⟨_, .inr (.inl rfl), rfl⟩
  · exact ⟨_, .inr (.inl rfl), rfl⟩
  · exact ⟨_, .inr (.inl rfl), rfl⟩
  · exact ⟨_, .inr (.inr rfl), rfl⟩
/-- the law's dict of guarded branches holds what the rules' holds -/
structure GInv (gs gs2 : Gs) : Prop where
  pm : gs2.Perm gs
  nd : (gs.map (·.1)).Nodup
  ok : ∀ q ∈ gs, (q.1 = "main" ∨ q.1 = "side") ∧ 0 ≤ q.2 ∧ q.2 ≤ 3
theorem gl_mem {gs : Gs} (nd : (gs.map (·.1)).Nodup) {n : Str} {m : Int} : gl gs n = some m ↔ (n, m) ∈ gs := by
  unfold gl
  induction gs with
  | nil => simp
  | cons q r ih =>
    rw [List.map_cons, List.nodup_cons] at nd
    rw [List.find?_cons]
    by_cases z : q.1 = n
    · rw [decide_eq_true z]
      show (some q).map (·.2) = some m ↔ _
      constructor
      · intro h
        have h : q.2 = m := Option.some.inj h
        rw [List.mem_cons, ← z, ← h]
        exact .inl rfl
      · intro h
        rcases List.mem_cons.mp h with e | e
        · rw [← e]
          rfl
        · exact absurd (List.mem_map.mpr ⟨(n, m), e, z.symm⟩) nd.1
    · rw [decide_eq_false z]
      show (r.find? _).map (·.2) = some m ↔ _
      rw [ih nd.2, List.mem_cons]
      constructor
      · exact fun h => .inr h
      · rintro (h | h)
        · exact absurd (by rw [← h]) z
        · exact h
theorem GInv.nd2 {gs gs2 : Gs} (g : GInv gs gs2) : (gs2.map (·.1)).Nodup := (g.pm.map _).nodup_iff.mpr g.nd
theorem GInv.gl {gs gs2 : Gs} (g : GInv gs gs2) (n : Str) : gl gs2 n = gl gs n := by
  cases h : R.gl gs n with
  | some m => exact (gl_mem g.nd2).mpr (g.pm.mem_iff.mpr ((gl_mem g.nd).mp h))
  | none =>
    cases h2 : R.gl gs2 n with
    | none => rfl
    | some m =>
      have := (gl_mem g.nd).mpr (g.pm.mem_iff.mp ((gl_mem g.nd2).mp h2))
      rw [h] at this
      cases this
theorem drop_none {gs : Gs} {n : Str} (h : ¬ (gs.any fun q => decide (q.1 = n)) = true) : gDrop gs n = gs := by
  unfold gDrop
  rw [List.filter_eq_self]
  intro q hq
  rw [Bool.not_eq_true] at h
  rw [List.any_eq_false] at h
  have h2 := h q hq
  rw [Bool.not_eq_true] at h2
  rw [h2]
  rfl
theorem drop_nil {gs : Gs} {n : Str} (h : n ∉ gs.map (·.1)) : gDrop gs n = gs := by
  unfold gDrop
  rw [List.filter_eq_self]
  intro q hq
  rw [decide_eq_false fun z => h (List.mem_map.mpr ⟨q, hq, z⟩)]
  rfl
theorem put_perm {gs : Gs} {n : Str} {m : Int} (nd : (gs.map (·.1)).Nodup) : (gPut gs n m).Perm (gDrop gs n ++ [(n, m)]) := by
  unfold gPut
  by_cases h : (gs.any fun q => decide (q.1 = n)) = true
  · rw [if_pos h]
    induction gs with
    | nil => cases h
    | cons q r ih =>
      rw [List.map_cons, List.nodup_cons] at nd
      by_cases z : q.1 = n
      · have hr : n ∉ r.map (·.1) := by rw [← z]; exact nd.1
        have em : r.map (fun q => if q.1 = n then (q.1, m) else q) = r := by
          have : ∀ x ∈ r, (fun q : Str × Int => if q.1 = n then (q.1, m) else q) x = x := fun x hx => if_neg fun y => hr (List.mem_map.mpr ⟨x, hx, y⟩)
          rw [List.map_congr_left this, List.map_id']
        rw [List.map_cons, if_pos z, em, z]
        have ed : gDrop (q :: r) n = r := by
          show (q :: r).filter _ = r
          rw [List.filter_cons, if_neg (by simp [z])]
          exact drop_nil hr
        rw [ed]
        exact (List.perm_append_singleton (n, m) r).symm
      · have h2 : (r.any fun q => decide (q.1 = n)) = true := by
          rw [List.any_cons, decide_eq_false z] at h
          exact h
        rw [List.map_cons, if_neg z]
        have ed : gDrop (q :: r) n = q :: gDrop r n := by
          show (q :: r).filter _ = _
          rw [List.filter_cons, if_pos (by simp [z])]
          rfl
        rw [ed]
        exact (ih nd.2 h2).cons q
  · rw [if_neg h, drop_none h]
/-- what the law makes of them -/
def gNext (gs2 : Gs) (n : Str) (m : Int) (good : Bool) : Gs := (gs2.filter fun q => !decide (q.1 = n) || !good) ++ (if good && decide (0 < m) then [(n, m)] else [])
theorem gNext_inv {gs gs2 : Gs} {n : Str} {m : Int} (g : GInv gs gs2) (hn : n = "main" ∨ n = "side" ∨ n = "") (h3 : m ≤ 3) : GInv (if gOkG gs n m = true then gSet gs n m else gs) (gNext gs2 n m (gOkG gs n m)) := by
  unfold gNext
  cases hg : gOkG gs n m with
  | false =>
    have e : (gs2.filter fun q => !decide (q.1 = n) || !false) = gs2 := by
      rw [List.filter_eq_self]
      intro q _
      simp
    rw [e, if_neg Bool.false_ne_true, if_neg (by simp), List.append_nil]
    exact g
  | true =>
    have e : (gs2.filter fun q => !decide (q.1 = n) || !true) = gDrop gs2 n := by
      unfold gDrop
      refine List.filter_congr fun q _ => ?_
      simp
    have hok : n ≠ "" ∧ 0 ≤ m := by
      unfold gOkG at hg
      simp only [Bool.and_eq_true, decide_eq_true_eq] at hg
      exact hg.1
    have hn2 : n = "main" ∨ n = "side" := by
      rcases hn with z | z | z
      · exact .inl z
      · exact .inr z
      · exact absurd z hok.1
    have dok : ∀ q ∈ gDrop gs n, (q.1 = "main" ∨ q.1 = "side") ∧ 0 ≤ q.2 ∧ q.2 ≤ 3 := fun q hq => g.ok q (List.mem_filter.mp hq).1
    have dnd : ((gDrop gs n).map (·.1)).Nodup := (List.filter_sublist.map _).nodup g.nd
    rw [e, if_pos rfl]
    unfold gSet
    by_cases hm : m = 0
    · rw [if_pos hm, if_neg (by rw [hm]; decide), List.append_nil]
      exact ⟨g.pm.filter _, dnd, dok⟩
    · rw [if_neg hm, if_pos (by rw [decide_eq_true (show 0 < m by omega)]; rfl)]
      have pp := put_perm (n := n) (m := m) g.nd
      have nn : ((gDrop gs n ++ [(n, m)]).map (·.1)).Nodup := by
        rw [List.map_append, List.nodup_append]
        refine ⟨dnd, List.nodup_cons.mpr ⟨by simp, List.nodup_nil⟩, fun a ha b hb z => ?_⟩
        have hb : b = n := by simpa using hb
        obtain ⟨q, hq, e⟩ := List.mem_map.mp ha
        have := (List.mem_filter.mp hq).2
        rw [decide_eq_true (show q.1 = n by rw [e, z, hb])] at this
        cases this
      refine ⟨((g.pm.filter _).append (List.Perm.refl _)).trans pp.symm, (pp.map _).nodup_iff.mpr nn, fun q hq => ?_⟩
      rcases List.mem_append.mp (pp.mem_iff.mp hq) with z | z
      · exact dok q z
      · rw [List.mem_singleton.mp z]
        exact ⟨hn2, hok.2, h3⟩
section
variable {P : Program} {w : World} {K : PySem.W.Frag} {mg : Str → Option Value} {base : Heap} {T : Tb} {C CR CS : Addr} {M : MD} {N : LD}
variable {f : Addr} {cdv : Value} {A : Around} {outer : List Env} {s : Shared} {H0 : Hp} {E : XK}

/-- name, many = .. -/
theorem st30 (hr : Room 24 (A.deeper (envOfC "law" (defScope sLaw) s.heap.objs.size f cdv))) (m : Ms P w K mg base T C CR CS M) (l : La P w K mg base T CS N) :
    ∃ t, PS (lawCx P w K mg base f cdv A outer s H0 E) (stepBody.getD 0 noS) t ∧ ∀ (D : Ends) (d : Addr) (v0 v1 v3 v4 v6 v7 v8 v9 v10 v11 v12 v13 v14 v15 v16 v17 v18 v19 v20 v21 v22 v23 v24 v25 v26 v27 v28 v30 : Option V) (u5 u29 : Option V) (H : Hp), TOk T H → DiceAt H d →
      (∀ (H' : Hp) (n : Str) (mn : Int), GoE T [d] H H' → DiceAt H' d → (n = "main" ∨ n = "side" ∨ n = "") → mn ≤ 3 → D.nx [v0, v1, some (.ref d), v3, v4, some (.str n), v6, v7, v8, v9, v10, v11, v12, v13, v14, v15, v16, v17, v18, v19, v20, v21, v22, v23, v24, v25, v26, v27, v28, some (.int mn), v30] H') →
      t D [v0, v1, some (.ref d), v3, v4, u5, v6, v7, v8, v9, v10, v11, v12, v13, v14, v15, v16, v17, v18, v19, v20, v21, v22, v23, v24, v25, v26, v27, v28, u29, v30] H := by
  refine ⟨_, ps_asg (pe_tup (pa_cons (pe_ix ix_list (pe_lst (pa_cons pe_str (pa_cons pe_str (pa_cons pe_str pa_nil)))) (pe_op op_fdiv (pe_call l.GD (hr.mono (by decide)) rfl l.mD l.kD l.bD .nil pass0 (pa_cons (pv 2) (pa_cons pe_int pa_nil))) pe_int) (fun _ _ => rfl))
      (pa_cons (pe_op op_sub (pe_call l.GD (hr.mono (by decide)) rfl l.mD l.kD l.bD .nil pass0 (pa_cons (pv 2) (pa_cons pe_int pa_nil))) (pe_callTy call_int1 (by rfl) m.Y.int (by decide +kernel) (pa_cons (pe_cmpR op_eq (pe_call l.GD (hr.mono (by decide)) rfl l.mD l.kD l.bD .nil pass0 (pa_cons (pv 2) (pa_cons pe_int pa_nil))) pe_int (nomark _)) pa_nil))) pa_nil)))
      (pg_tup rfl (pgs_cons (pg_name (i := 5) scA.nd rfl (Or.inr rfl)) (pgs_cons (pg_name (i := 29) scA.nd rfl (Or.inr rfl)) pgs_nil))), fun D d v0 v1 v3 v4 v6 v7 v8 v9 v10 v11 v12 v13 v14 v15 v16 v17 v18 v19 v20 v21 v22 v23 v24 v25 v26 v27 v28 v30 u5 u29 H tk dk k1 => ?_⟩
  refine ⟨by show 3 ≤ sizeLine; decide, fun q hq => ?_⟩
  have w1 : Go T H (upd H q (.lst (br3.map V.str))) := go_upd tk hq
  have nqd : q ≠ d := dk.ne hq
  refine ⟨_, rfl, d, 7, rfl, by decide, by decide, dk.go w1, fun r1 xs1 h0 h7 dv1 => ⟨_, _, rfl, rfl, ⟨by decide, by decide⟩, ?_⟩⟩
  obtain ⟨g1, dk1⟩ := roll_go (S := [d]) (Go.any w1) (by simp) (dk.go w1) dv1
  have eq1 : upd (upd H q (.lst (br3.map V.str))) d (.lst xs1) q = some (.lst (br3.map V.str)) := by rw [upd_ne nqd]; exact upd_same
  show rIxL K (.ref q) (.int (r1 / 3)) (upd (upd H q (.lst (br3.map V.str))) d (.lst xs1)) _
  generalize upd (upd H q (.lst (br3.map V.str))) d (.lst xs1) = G1 at g1 dk1 eq1 ⊢
  obtain ⟨n, hn, eat⟩ := br_at h0 h7
  refine ⟨q, _, _, _, rfl, rfl, SqL.of eq1, eat, _, rfl, d, 4, rfl, by decide, by decide, dk1, fun r2 xs2 h20 h24 dv2 => ?_⟩
  obtain ⟨g2, dk2⟩ := roll_go (S := [d]) g1 (by simp) dk1 dv2
  refine ⟨_, rfl, d, 9, rfl, by decide, by decide, dk2, fun r3 xs3 h30 h39 dv3 => ⟨rfl, .inr ⟨_, rfl, _, _, rfl, rfl, by show 2 ≤ sizeLine; decide, fun p hp => ⟨p, _, rfl, SqT.of upd_same, rfl, _, _, rfl, _, _, rfl, rfl, ?_⟩⟩⟩⟩
  obtain ⟨g3, dk3⟩ := roll_go (S := [d]) g2 (by simp) dk2 dv3
  have w4 := g3.trans (go_upd (S := [d]) (o := .tup [.str n, .int (r2 - if decide (V.int r3 = V.int 0) = true then 1 else 0)]) g3.2 hp)
  refine k1 _ n _ w4 ?_ hn ?_
  · obtain ⟨ys, e, k⟩ := dk3
    exact ⟨ys, by rw [upd_ne (ne_of_none e hp)]; exact e, k⟩
  · split <;> omega
end
end R
end Text_R28
section Text_R29
set_option Elab.async false
set_option linter.all false
set_option maxRecDepth 100000
set_option maxHeartbeats 4000000
namespace R
open PySem PySem.Spec PyProof.Rows L2 Gx GxR LamY LamZ

theorem lawQ : (("law" : Str) ++ ".<locals>." ++ "<lambda>" : Str) = lamM := by decide +kernel
/-- the lambda that guards -/
def lamG : Expr := match stepBody.getD 2 noS with
  | .If (.Compare (.Compare (.Call _ [e] _ _) _ _ _) _ _ _) _ _ _ => e
  | _ => noE
def lamGa : Arguments := match lamG with
  | .Lambda a _ _ _ => a
  | _ => ⟨[], [], none, [], [], none, []⟩
def lamGb : Expr := match lamG with
  | .Lambda _ b _ _ => b
  | e => e
def lamGs : Scope := match lamG with
  | .Lambda _ _ s _ => s
  | _ => defScope sLaw
theorem lamGa_eq : lamGa = ⟨[], [], none, [], [], none, []⟩ := by rfl
theorem lamG_S : LamX.LamS (defScope sLaw) lamGs := LamX.lamS_by (by decide +kernel)
theorem bindG (q : Str) (cl : List (Str × Addr)) (pm cv ctv : Value) : bindArgs (PySem.W.kla_fn "<lambda>" q lamGa lamGb lamGs cl pm cv ctv) ⟨[], []⟩ = pure [] := by
  rw [lamGa_eq]
  exact bind0 _ _ _ _ _ _ _
theorem mu_frz {od : Obj} {u : HO} : (∀ ps, HO.frz od u ≠ .tbl ps) ∧ (∀ φ, HO.frz od u ≠ .ext φ) ∧ ∀ ys, HO.frz od u ≠ .tup ys := ⟨(by intro _ z; cases z), (by intro _ z; cases z), (by intro _ z; cases z)⟩
section
variable {P : Program} {w : World} {K : PySem.W.Frag} {mg : Str → Option Value} {base : Heap} {T : Tb} {C CR CS : Addr} {M : MD} {N : LD}
variable {f : Addr} {cdv : Value} {A : Around} {outer : List Env} {s : Shared} {H0 : Hp} {E : XK}

/-- good = .. -/
theorem st31 (hr : Room 24 (A.deeper (envOfC "law" (defScope sLaw) s.heap.objs.size f cdv))) :
    ∃ t, PS (lawCx P w K mg base f cdv A outer s H0 E) (stepBody.getD 1 noS) t ∧ ∀ (D : Ends) (gd : Addr) (gs2 : Gs) (n : Str) (mn : Int) (v0 v1 v2 v4 v6 v7 v9 v10 v11 v12 v13 v14 v15 v16 v17 v18 v19 v20 v21 v22 v23 v24 v25 v26 v27 v28 v30 : Option V) (u8 : Option V) (H : Hp), H gd = some (.dK (gk gs2)) →
      D.nx [v0, v1, v2, some (.ref gd), v4, some (.str n), v6, v7, some (.bl (gOkG gs2 n mn)), v9, v10, v11, v12, v13, v14, v15, v16, v17, v18, v19, v20, v21, v22, v23, v24, v25, v26, v27, v28, some (.int mn), v30] H →
      t D [v0, v1, v2, some (.ref gd), v4, some (.str n), v6, v7, u8, v9, v10, v11, v12, v13, v14, v15, v16, v17, v18, v19, v20, v21, v22, v23, v24, v25, v26, v27, v28, some (.int mn), v30] H := by
  have hu := hu_of hr
  refine ⟨_, ps_set (i := 8) scA.nd rfl (Or.inr rfl) (pe_and (pe_cmpR op_ne (pv 5) pe_str (nomark _)) (pe_and (pe_cmpR op_ge (pv 29) pe_int (nomark _)) (pe_one (pe_or (pe_cmpR op_gt (pv 29) pe_int (nomark _)) (pe_one (pe_cmp (pc_din hu (pv 5) (pv 3)) rfl)))))), fun D gd gs2 n mn v0 v1 v2 v4 v6 v7 v9 v10 v11 v12 v13 v14 v15 v16 v17 v18 v19 v20 v21 v22 v23 v24 v25 v26 v27 v28 v30 u8 H eg k1 => ?_⟩
  have eS : (!decide (V.str n = V.str "")) = decide (n ≠ "") := by
    by_cases z : n = ""
    · rw [z]; decide
    · rw [decide_eq_true z, decide_eq_false fun y => z (V.str.inj y)]
      rfl
  refine ⟨_, rfl, rfl, _, rfl, ?_⟩
  rw [eS]
  by_cases hn : n ≠ ""
  · refine (if_pos (decide_eq_true hn)).mpr ⟨_, rfl, _, _, rfl, rfl, _, rfl, ?_⟩
    by_cases h0 : 0 ≤ mn
    · refine (if_pos (decide_eq_true h0)).mpr ⟨_, rfl, _, _, rfl, rfl, _, rfl, ?_⟩
      by_cases h1 : 0 < mn
      · refine (if_pos (decide_eq_true h1)).mpr ?_
        have e : gOkG gs2 n mn = true := by
          unfold gOkG
          rw [decide_eq_true hn, decide_eq_true h0, decide_eq_true h1]
          rfl
        rw [e] at k1
        exact k1
      · refine (if_neg (by rw [decide_eq_false h1]; decide)).mpr ⟨_, rfl, _, rfl, gd, _, rfl, DGet.k (k := Sum.inr n) eg, ?_⟩
        rw [valV_gk]
        have e : gOkG gs2 n mn = ((gl gs2 n).map V.int).isSome := by
          unfold gOkG
          rw [decide_eq_true hn, decide_eq_true h0, decide_eq_false h1, Option.isSome_map]
          simp
        rw [e] at k1
        exact k1
    · refine (if_neg (by rw [decide_eq_false h0]; decide)).mpr ?_
      have e : gOkG gs2 n mn = false := by
        unfold gOkG
        rw [decide_eq_false h0]
        simp
      rw [e] at k1
      exact k1
  · refine (if_neg (by rw [decide_eq_false hn]; decide)).mpr ?_
    have e : gOkG gs2 n mn = false := by
      unfold gOkG
      rw [decide_eq_false hn]
      simp
    rw [e] at k1
    exact k1
/-- the lambda's body -/
def tGd (C : Addr) (T : Tb) (CR : Addr) (E : XK) : TE := fun σ H Q => ∃ r d n mn ow gs ms hs bs, σ[30]? = some (some (.ref r)) ∧ σ[5]? = some (some (.str n)) ∧ σ[29]? = some (some (.int mn)) ∧ RAt C H r d ow gs ms hs bs ∧ TOk T H ∧ gs.length ≤ 1000 ∧
  (gOkG gs n mn = true → ∀ H', GoE T [d] H H' → RAt C H' r d ow (gSet gs n mn) ms hs bs → Q .non H') ∧ (gOkG gs n mn = false → E (.ref CR) none H)
theorem lbG {f cm fl c' : Addr} {Ao A : Around} {oo outer : List Env} {so s : Shared} {Ho H : Hp} {Eo E : XK} (m : Ms P w K mg base T C CR CS M) (hr : Room 21 (A.deeper (LamX.lamEnv (lawCx P w K mg base f (.ref cm) Ao oo so Ho Eo) lamGs s.heap.objs.size fl c'))) :
    PE (LamX.lamCx (lawCx P w K mg base f (.ref cm) Ao oo so Ho Eo) A outer s H E lamGs fl c') lamGb (tGd C T CR E) := by
  refine L2.PE.weak (pe_meth (pv 30) m.L.cl m.mG m.GG (hr.mono (by decide)) m.bG .nil (passes_call (takes_of rfl rfl rfl rfl) (fun _ _ _ _ e => e)) (pa_cons (pv 5) (pa_cons (pv 29) pa_nil))) fun σ H Q h => ?_
  obtain ⟨r, d, n, mn, ow, gs, ms, hs, bs, e30, e5, e29, ra, tk, len, k1, k2⟩ := h
  obtain ⟨⟨dx, o, hh, bb, er, _⟩, _⟩ := id ra
  exact ⟨_, e30, r, dx, _, rfl, er, look_no (by decide +kernel), _, e5, _, e29, r, d, n, mn, ow, gs, ms, hs, bs, rfl, ra, tk, len, k1, k2⟩
/-- if (_law_told(lambda: rules.guard(name, many)) == "StoreError") == good: .. -/
theorem st32 {cm : Addr} (hr : Room 24 (A.deeper (envOfC "law" (defScope sLaw) s.heap.objs.size f (.ref cm)))) (m : Ms P w K mg base T C CR CS M) (l : La P w K mg base T CS N) (bm : LamX.TabB base mg cm T.m) :
    ∃ t, PS (lawCx P w K mg base f (.ref cm) A outer s H0 E) (stepBody.getD 2 noS) t ∧ ∀ (D : Ends) (r dg : Addr) (ow : Owns) (gs : Gs) (ms : Int) (hs bs : List Str) (n : Str) (mn : Int) (v0 v1 v2 v3 v4 v6 v7 v9 v10 v11 v12 v13 v14 v15 v16 v17 v18 v19 v20 v21 v22 v23 v24 v25 v26 v27 v28 : Option V) (H : Hp), TOk T H → RAt C H r dg ow gs ms hs bs → gs.length ≤ 1000 →
      (∀ H', GoE T [dg] H H' → RAt C H' r dg ow (if gOkG gs n mn = true then gSet gs n mn else gs) ms hs bs → D.nx [v0, v1, v2, v3, v4, some (.str n), v6, v7, some (.bl (gOkG gs n mn)), v9, v10, v11, v12, v13, v14, v15, v16, v17, v18, v19, v20, v21, v22, v23, v24, v25, v26, v27, v28, some (.int mn), some (.ref r)] H') →
      t D [v0, v1, v2, v3, v4, some (.str n), v6, v7, some (.bl (gOkG gs n mn)), v9, v10, v11, v12, v13, v14, v15, v16, v17, v18, v19, v20, v21, v22, v23, v24, v25, v26, v27, v28, some (.int mn), some (.ref r)] H := by
  obtain ⟨oc, od, kV, doc, pm2, an, cdv, ct, osl, ed, lk, hcd⟩ := l.t.F.ex
  have bT := l.t.bT
  rw [ed] at bT lk
  refine ⟨_, ps_if (pt_cmpR op_eq (pe_cmpR op_eq (pe_hand (X := lawCx P w K mg base f (.ref cm) A outer s H0 E) (k := 21) (params := lamGa) (body := lamGb) (scope := lamGs) (t := fun E => tGd C T CR E) id rfl l.t.mT l.t.F.kp lk hcd bT scTo rfl (Or.inl rfl) (LamX.told_gives (CS := CS) (ret := "StoreError") (e := "StoreError") rfl m.X.gS (by decide) (fun _ => rfl))
      (pe_lambdaC (params := lamGa) (body := lamGb) (scope := lamGs) bm rfl rfl lamG_S) (fun J => ⟨_, J⟩) (hr.mono (by decide)) lamG_S bindG (fun A2 o2 s2 H2 E2 f2 c2 hr2 => lbG m hr2)) pe_str (nomark _)) (pv 8) (nomark _)) (pss_one (ps_ret pe_bl)) pss_nil, fun D r dg ow gs ms hs bs n mn v0 v1 v2 v3 v4 v6 v7 v9 v10 v11 v12 v13 v14 v15 v16 v17 v18 v19 v20 v21 v22 v23 v24 v25 v26 v27 v28 H tk ra len k1 => ?_⟩
  refine ⟨by rw [show (lawCx P w K mg base f (.ref cm) A outer s H0 E).env.qual ++ "<lambda>" = lamM from lawQ]; exact tk.m, fun G1 fl b1 s1 l1 => ?_⟩
  have w1 : Go T H G1 := but_m tk b1 (by rw [show lamM = (lawCx P w K mg base f (.ref cm) A outer s H0 E).env.qual ++ "<lambda>" from lawQ.symm]; exact s1)
  obtain ⟨pm, c', ctv, q1, q2⟩ := l1
  refine ⟨fl, pm, c', ctv, rfl, q1, q2, q1, r, dg, n, mn, ow, gs, ms, hs, bs, rfl, rfl, rfl, ra.ext w1 (by simp) (by simp), w1.2, len, fun hg H' g' ra' => ?_, fun hb => ?_⟩
  · rw [hg] at k1 ⊢
    refine ⟨rfl, _, rfl, rfl, _, rfl, iteF' (by decide) (k1 H' ((Go.any w1).trans g') ?_)⟩
    rw [if_pos rfl]
    exact ra'
  · rw [hb] at k1 ⊢
    refine ⟨true, m.X.caught, fun _ => ⟨rfl, _, rfl, rfl, _, rfl, iteF' (by decide) (k1 G1 (Go.any w1) ?_)⟩, fun q => nomatch q⟩
    rw [if_neg Bool.false_ne_true]
    exact ra.ext w1 (by simp) (by simp)
end
end R
end Text_R29
section Text_R30
set_option Elab.async false
set_option linter.all false
set_option maxRecDepth 100000
set_option maxHeartbeats 4000000
namespace R
open PySem PySem.Spec PyProof.Rows L2 Gx GxR LamY LamZ

/-- a pair of a name and a number -/
def GpAt (H : Hp) (p : Addr) (q : Str × Int) : Prop := H p = some (.tup [.str q.1, .int q.2])
theorem merge_gk {A : Gs} (h : (A.map (·.1)).Nodup) : mergeK [] (gk A) = gk A := by
  have : ∀ (A B : Gs), ((B ++ A).map (·.1)).Nodup → mergeK (gk B) (gk A) = gk (B ++ A) := by
    intro A
    induction A with
    | nil => intro B _; rw [List.append_nil]; rfl
    | cons q A ih =>
      intro B hn
      have hq : (Sum.inr q.1 : Key) ∉ (gk B).map (·.1) := fun hm => by
        unfold gk at hm
        rw [List.map_map] at hm
        obtain ⟨r, hr, e⟩ := List.mem_map.mp hm
        have e : r.1 = q.1 := Sum.inr.inj e
        rw [List.map_append, List.map_cons] at hn
        exact (List.nodup_append.mp hn).2.2 r.1 (List.mem_map.mpr ⟨r, hr, rfl⟩) q.1 List.mem_cons_self e
      show mergeK (putK (gk B) (Sum.inr q.1) (.int q.2)) (gk A) = _
      rw [put_new _ _ _ hq]
      have := ih (B ++ [q]) (by rw [List.append_assoc]; exact hn)
      rw [List.append_assoc] at this
      rw [← show gk (B ++ [q]) = gk B ++ [((Sum.inr q.1 : Key), V.int q.2)] by unfold gk; rw [List.map_append]; rfl]
      exact this
  exact this A [] h
theorem gk_at {A : Gs} {i : Nat} {k : Key} {v : V} (h : (gk A)[i]? = some (k, v)) : ∃ q, A[i]? = some q ∧ k = Sum.inr q.1 ∧ v = .int q.2 := by
  unfold gk at h
  rw [List.getElem?_map] at h
  cases e : A[i]? with
  | none => rw [e] at h; cases h
  | some q =>
    rw [e] at h
    have h := Option.some.inj h
    exact ⟨q, rfl, (congrArg Prod.fst h).symm, (congrArg Prod.snd h).symm⟩
theorem go_back {T : Tb} {H G : Hp} {d : Addr} {u v : HO} (tk : TOk T H) (e : H d = some u) (g : GoE T [d] H G) (e2 : G d = some v) (mv : (∀ ps, v ≠ .tbl ps) ∧ (∀ φ, v ≠ .ext φ) ∧ ∀ ys, v ≠ .tup ys) : Go T H (upd G d u) := by
  have w := go_set (S := [d]) (o := u) g.2 e2 mv (by simp)
  refine ⟨fun b o eb nt mm => ?_, w.2⟩
  by_cases z : b = d
  · rw [z, upd_same]
    rw [z, e] at eb
    exact eb
  · rw [upd_ne z]
    exact g.1 b o eb nt (.inl (by simpa using z))
section
variable {P : Program} {w : World} {K : PySem.W.Frag} {mg : Str → Option Value} {base : Heap} {T : Tb} {C CR CS : Addr} {M : MD} {N : LD}
variable {f : Addr} {cdv : Value} {A : Around} {outer : List Env} {s : Shared} {H0 : Hp} {E : XK}

/-- guarded = dict(..) -/
theorem st33 (hr : Room 24 (A.deeper (envOfC "law" (defScope sLaw) s.heap.objs.size f cdv))) (m : Ms P w K mg base T C CR CS M) :
    ∃ t, PS (lawCx P w K mg base f cdv A outer s H0 E) (stepBody.getD 3 noS) t ∧ ∀ (D : Ends) (gd : Addr) (gs2 : Gs) (n : Str) (mn : Int) (good : Bool) (v0 v1 v2 v4 v6 v7 v10 v11 v12 v13 v14 v15 v16 v17 v18 v19 v20 v21 v22 v23 v24 v25 v26 v27 v28 v30 : Option V) (u9 : Option V) (H : Hp), TOk T H → H gd = some (.dK (gk gs2)) → (gs2.map (·.1)).Nodup → gs2.length ≤ 10 → ((gNext gs2 n mn good).map (·.1)).Nodup →
      (∀ (H' : Hp) (g' : Addr), Go T H H' → Fresh H g' → H' g' = some (.dK (gk (gNext gs2 n mn good))) → D.nx [v0, v1, v2, some (.ref g'), v4, some (.str n), v6, v7, some (.bl good), u9, v10, v11, v12, v13, v14, v15, v16, v17, v18, v19, v20, v21, v22, v23, v24, v25, v26, v27, v28, some (.int mn), v30] H') →
      t D [v0, v1, v2, some (.ref gd), v4, some (.str n), v6, v7, some (.bl good), u9, v10, v11, v12, v13, v14, v15, v16, v17, v18, v19, v20, v21, v22, v23, v24, v25, v26, v27, v28, some (.int mn), v30] H := by
  have hu := hu_of hr
  refine ⟨_, ps_set (i := 3) scA.nd rfl (Or.inr rfl) (pe_callTy (call_dictP rfl) (by rfl) m.Y.dict (by decide +kernel) (pa_cons (pe_op op_cat (pe_lock (pe_lc (own := [("one", 9)]) (g := gName 9) rfl scA.nd (pi_keys (pv 3)) (blkOk_by (N := NA) (sc := defScope sLaw) (by decide +kernel)) (fun _ _ _ _ _ => pg_name (i := 9) scA.nd rfl (Or.inl rfl) (Or.inr rfl))
        (fun _ _ _ _ _ => pts_one (PW.pt (pw_or (pt_cmpR op_ne (pv 9) (pv 5) (nomark _)) (pw_or1 (pt_not (pt_val (pv 8))))))) (fun _ _ _ _ _ => pe_tup (pa_cons (pv 9) (pa_cons (pe_dget hu (pv 3) (pv 9) (fun _ _ => rfl)) pa_nil)))))
      (pe_op op_rep (pe_lst (pa_cons (pe_tup (pa_cons (pv 5) (pa_cons (pv 29) pa_nil))) pa_nil)) (pe_callTy call_int1 (by rfl) m.Y.int (by decide +kernel) (pa_cons (pe_and (pv 8) (pe_one (pe_cmpR op_gt (pv 29) pe_int (nomark _)))) pa_nil)))) pa_nil)), fun D gd gs2 n mn good v0 v1 v2 v4 v6 v7 v10 v11 v12 v13 v14 v15 v16 v17 v18 v19 v20 v21 v22 v23 v24 v25 v26 v27 v28 v30 u9 H tk eg nd hl nd2 k1 => ?_⟩
  refine ⟨gd, .dK (gk gs2), eg, trivial, fun od => ⟨_, rfl, gd, od, rfl, .inl ⟨gk gs2, upd_same, fun D1 hD1 => ?_⟩⟩⟩
  have w0 : GoE T [gd] H (upd H gd (.frz od (.dK (gk gs2)))) := go_set tk eg mu_dK (by simp)
  have ef0 : upd H gd (.frz od (.dK (gk gs2))) gd = some (.frz od (.dK (gk gs2))) := upd_same
  have nD1H : H D1 = none := by
    by_cases z : D1 = gd
    · rw [z, upd_same] at hD1; cases hD1
    · rw [upd_ne z] at hD1; exact hD1
  generalize upd H gd (.frz od (.dK (gk gs2))) = F0 at w0 ef0 hD1 ⊢
  have ngD : gd ≠ D1 := ne_of_none ef0 hD1
  have w1 : Go T F0 (upd F0 D1 (.lst [])) := go_upd w0.2 hD1
  have ef1 := w1.at ef0
  have fil : ∀ {i : Nat} {q : Str × Int}, gs2[i]? = some q → (gs2.take (i + 1)).filter (fun q => !decide (q.1 = n) || !good) = (gs2.take i).filter (fun q => !decide (q.1 = n) || !good) ++ (if (!decide (q.1 = n) || !good) = true then [q] else []) := fun {i q} h => by
    rw [take_snoc h, List.filter_append]
    congr 1
    by_cases z : (!decide (q.1 = n) || !good) = true
    · rw [if_pos z]; simp only [List.filter_cons, List.filter_nil]; rw [if_pos z]
    · rw [if_neg z]; simp only [List.filter_cons, List.filter_nil]; rw [if_neg z]
  refine ⟨fun i mm G => i + mm = gs2.length ∧ GoE T [D1] (upd F0 D1 (.lst [])) G ∧ ∃ ps, G D1 = some (.lst (ps.map V.ref)) ∧ All2 (GpAt G) ps ((gs2.take i).filter fun q => !decide (q.1 = n) || !good), ⟨gs2.length, Nat.zero_add _, GoE.refl w1.2, [], upd_same, All2.nil⟩, fun i mm G w => ?_⟩
  obtain ⟨hsum, g, ps, eD, al⟩ := w
  have ef := g.at ef1 (by simpa using ngD)
  rcases Nat.lt_or_ge i gs2.length with hi | hi
  · refine .inr ⟨⟨ef, by rw [gk_len]; exact hi⟩, fun G => GoE T [D1] (upd F0 D1 (.lst [])) G ∧ ∃ ps, G D1 = some (.lst (ps.map V.ref)) ∧ All2 (GpAt G) ps ((gs2.take (i + 1)).filter fun q => !decide (q.1 = n) || !good), fun G' q => ⟨mm - 1, by omega, by omega, q⟩, fun x G' y => ?_⟩
    obtain ⟨rfl, k, v, e1, rfl⟩ := y
    obtain ⟨q, hq, rfl, rfl⟩ := gk_at e1
    have eN : (!decide (kV (Sum.inr q.1) = V.str n)) = !decide (q.1 = n) := by
      congr 1
      rw [Bool.eq_iff_iff, decide_eq_true_iff, decide_eq_true_iff]
      exact ⟨fun z => V.str.inj z, fun z => by rw [z]; rfl⟩
    have hps : ps.length ≤ 10 := by
      rw [al.1]
      have h1 := List.length_filter_le (fun q : Str × Int => !decide (q.1 = n) || !good) (gs2.take i)
      rw [List.length_take] at h1
      omega
    have yes : (!decide (q.1 = n) || !good) = true → ∀ t : Addr, G' t = none → ∃ acc, upd G' t (.tup [.str q.1, .int q.2]) D1 = some (.lst acc) ∧ acc.length < sizeLine ∧ (GoE T [D1] (upd F0 D1 (.lst [])) (upd (upd G' t (.tup [.str q.1, .int q.2])) D1 (.lst (acc ++ [.ref t]))) ∧ ∃ ps', upd (upd G' t (.tup [.str q.1, .int q.2])) D1 (.lst (acc ++ [.ref t])) D1 = some (.lst (ps'.map V.ref)) ∧ All2 (GpAt (upd (upd G' t (.tup [.str q.1, .int q.2])) D1 (.lst (acc ++ [.ref t])))) ps' ((gs2.take (i + 1)).filter fun q => !decide (q.1 = n) || !good)) := fun z t ht => by
      have w2 : GoE T [D1] G' (upd G' t (.tup [.str q.1, .int q.2])) := go_upd g.2 ht
      have eD2 : upd G' t (.tup [.str q.1, .int q.2]) D1 = some (.lst (ps.map V.ref)) := by rw [upd_ne (ne_of_none eD ht)]; exact eD
      have w3 : GoE T [D1] (upd G' t (.tup [.str q.1, .int q.2])) (upd (upd G' t (.tup [.str q.1, .int q.2])) D1 (.lst (ps.map V.ref ++ [.ref t]))) := go_set w2.2 eD2 mu_lst (by simp)
      refine ⟨_, eD2, by rw [List.length_map, sizeLine_eq]; omega, (g.trans w2).trans w3, ps ++ [t], by rw [upd_same, List.map_append]; rfl, ?_⟩
      rw [fil hq, if_pos z]
      exact (al.imp fun p r e => (w2.trans w3).t _ _ e).snoc (w3.t _ _ upd_same)
    have dg : DGet G' gd (.str q.1) (some (.int q.2)) := by
      refine .inl ⟨gk gs2, Sum.inr q.1, .inr ⟨od, ef⟩, rfl, ?_⟩
      rw [valV_gk, (gl_mem nd).mpr (List.mem_of_getElem? hq)]
      rfl
    refine ⟨rfl, _, rfl, _, rfl, rfl, _, rfl, ?_⟩
    rw [eN]
    by_cases hz : q.1 = n
    · refine (if_neg (by rw [decide_eq_true hz]; decide)).mpr ⟨_, rfl, _, rfl, ?_⟩
      cases good with
      | true =>
        refine (if_neg Bool.false_ne_true).mpr ⟨g, ps, eD, ?_⟩
        rw [fil hq, if_neg (by rw [decide_eq_true hz]; decide), List.append_nil]
        exact al
      | false =>
        refine (if_pos rfl).mpr ⟨_, rfl, _, rfl, _, rfl, gd, _, rfl, dg, by show 2 ≤ sizeLine; decide, fun t ht => yes (by simp) t ht⟩
    · refine (if_pos (by rw [decide_eq_false hz]; rfl)).mpr ((if_pos rfl).mpr ⟨_, rfl, _, rfl, _, rfl, gd, _, rfl, dg, by show 2 ≤ sizeLine; decide, fun t ht => yes (by rw [decide_eq_false hz]; rfl) t ht⟩)
  · have e2 : i = gs2.length := by omega
    subst e2
    rw [List.take_length] at al
    refine .inl ⟨⟨ef, by rw [gk_len]; exact Nat.le_refl _⟩, ef, ?_⟩
    have gF : GoE T [gd] H G := by
      refine ⟨fun b o e nt mm2 => g.1 b o (w1.1 b o (w0.1 b o e nt mm2) nt (.inl (by simp))) nt ?_, g.2⟩
      rcases mm2 with mm2 | mm2
      · refine .inl ?_
        have : b ≠ D1 := ne_of_none e nD1H
        simpa using this
      · exact .inr mm2
    have h5 : Go T H (upd G gd (.dK (gk gs2))) := go_back tk eg gF ef mu_frz
    have eD5 : upd G gd (.dK (gk gs2)) D1 = some (.lst (ps.map V.ref)) := by rw [upd_ne (Ne.symm ngD)]; exact eD
    have al5 : All2 (GpAt (upd G gd (.dK (gk gs2)))) ps (gs2.filter fun q => !decide (q.1 = n) || !good) := al.imp fun p q e => by
      show upd G gd (.dK (gk gs2)) p = _
      rw [upd_ne fun z => ?_]
      · exact e
      · have e : G p = _ := e
        rw [z, ef] at e
        cases e
    generalize upd G gd (.dK (gk gs2)) = G5 at h5 eD5 al5 ⊢
    refine ⟨_, rfl, _, rfl, by show 2 ≤ sizeLine; decide, fun t ht => ⟨by show 1 ≤ sizeLine; decide, fun L2 hL2 => ?_⟩⟩
    have w6 : Go T G5 (upd G5 t (.tup [.str n, .int mn])) := go_upd h5.2 ht
    have w7 : Go T (upd G5 t (.tup [.str n, .int mn])) (upd (upd G5 t (.tup [.str n, .int mn])) L2 (.lst [.ref t])) := go_upd w6.2 hL2
    have et7 := w7.t _ _ (show upd G5 t (.tup [.str n, .int mn]) t = some (.tup [.str n, .int mn]) from upd_same)
    have eL7 : upd (upd G5 t (.tup [.str n, .int mn])) L2 (.lst [.ref t]) L2 = some (.lst [.ref t]) := upd_same
    have eD7 := (w6.trans w7).at eD5
    have al7 := al5.imp fun p q e => (w6.trans w7).t _ _ e
    have h7 := (h5.trans w6).trans w7
    generalize upd (upd G5 t (.tup [.str n, .int mn])) L2 (.lst [.ref t]) = G7 at h7 et7 eL7 eD7 al7 ⊢
    -- what comes of the last
    have last : ∀ b : Bool, b = (good && decide (0 < mn)) → ∀ (k : Int), k = (if b = true then 1 else 0) → rRep (.ref L2) (.int k) G7 fun vx G8 => rCat (.ref D1) vx G8 fun vy G9 => ∃ (a : Addr) (ps : List Addr) (kvs : List (Key × V)), ([vy] : List V) = [.ref a] ∧ SqL K G9 a (ps.map V.ref) ∧ Paired (fun p (kv : Key × V) => SqT K G9 p [kV kv.1, kv.2]) ps kvs ∧ ∀ p, G9 p = none → D.nx [v0, v1, v2, some (.ref p), v4, some (.str n), v6, v7, some (.bl good), u9, v10, v11, v12, v13, v14, v15, v16, v17, v18, v19, v20, v21, v22, v23, v24, v25, v26, v27, v28, some (.int mn), v30] (upd G9 p (.dK (mergeK [] kvs))) := by
      intro b hb k hk
      refine ⟨L2, k, _, rfl, rfl, eL7, by rw [hk]; split <;> decide, by rw [hk]; split <;> decide, by rw [hk, sizeLine_eq]; show 1 * _ ≤ _; split <;> decide, fun p hp => ?_⟩
      have w8 : Go T G7 (upd G7 p (.lst (List.replicate k.toNat [V.ref t]).flatten)) := go_upd h7.2 hp
      have e8 : (List.replicate k.toNat [V.ref t]).flatten = ((if b = true then [t] else []) : List Addr).map V.ref := by
        rw [hk]
        cases b <;> rfl
      rw [e8] at w8 ⊢
      have ep8 : upd G7 p (.lst (((if b = true then [t] else []) : List Addr).map V.ref)) p = some (.lst (((if b = true then [t] else []) : List Addr).map V.ref)) := upd_same
      have eD8 := w8.at eD7
      have et8 := w8.t _ _ et7
      have al8 := al7.imp fun p q e => w8.t _ _ e
      have h8 := h7.trans w8
      generalize upd G7 p (.lst (((if b = true then [t] else []) : List Addr).map V.ref)) = G8 at w8 ep8 eD8 et8 al8 h8 ⊢
      have hps : ps.length ≤ 10 := by
        rw [al.1]
        have h1 := List.length_filter_le (fun q : Str × Int => !decide (q.1 = n) || !good) gs2
        omega
      refine ⟨D1, p, _, _, rfl, rfl, eD8, ep8, ?_, fun p9 hp9 => ?_⟩
      · rw [List.length_map, List.length_map, sizeLine_eq]
        cases b
        · show ps.length + 0 ≤ _; omega
        · show ps.length + 1 ≤ _; omega
      have w9 : Go T G8 (upd G8 p9 (.lst (ps.map V.ref ++ ((if b = true then [t] else []) : List Addr).map V.ref))) := go_upd h8.2 hp9
      have h9 := h8.trans w9
      have al9 : All2 (GpAt (upd G8 p9 (.lst (ps.map V.ref ++ ((if b = true then [t] else []) : List Addr).map V.ref)))) (ps ++ (if b = true then [t] else [])) (gNext gs2 n mn good) := by
        unfold gNext
        rw [← hb]
        refine (al8.imp fun p q e => w9.t _ _ e).append ?_
        cases b with
        | false => exact All2.nil
        | true => exact All2.nil.snoc (w9.t _ _ et8)
      have ep9 : upd G8 p9 (.lst (ps.map V.ref ++ ((if b = true then [t] else []) : List Addr).map V.ref)) p9 = some (.lst ((ps ++ (if b = true then [t] else [])).map V.ref)) := by rw [upd_same, List.map_append]
      generalize upd G8 p9 (.lst (ps.map V.ref ++ ((if b = true then [t] else []) : List Addr).map V.ref)) = G9 at w9 h9 al9 ep9 ⊢
      refine ⟨p9, _, gk (gNext gs2 n mn good), rfl, SqL.of ep9, paired_of ⟨by rw [gk_len]; exact al9.1, fun i p kv h1 h2 => ?_⟩, fun pz hpz => ?_⟩
      · obtain ⟨k, v⟩ := kv
        obtain ⟨q, hq, rfl, rfl⟩ := gk_at h2
        exact SqT.of (al9.2 i p q h1 hq)
      · rw [merge_gk nd2]
        have w10 : Go T G9 (upd G9 pz (.dK (gk (gNext gs2 n mn good)))) := go_upd h9.2 hpz
        exact k1 _ pz (h9.trans w10) (fresh_of h9 hpz) upd_same
    refine ⟨_, rfl, _, rfl, ?_⟩
    cases good with
    | false => exact (if_neg Bool.false_ne_true).mpr (.inr ⟨_, rfl, last false rfl _ rfl⟩)
    | true => exact (if_pos rfl).mpr ⟨_, rfl, _, _, rfl, rfl, .inr ⟨_, rfl, last (decide (0 < mn)) (by simp) _ rfl⟩⟩
end
end R
end Text_R30
section Text_R31
set_option Elab.async false
set_option linter.all false
set_option maxRecDepth 100000
set_option maxHeartbeats 4000000
namespace R
open PySem PySem.Spec PyProof.Rows L2 Gx GxR LamY LamZ

theorem GInv.len {gs gs2 : Gs} (g : GInv gs gs2) : gs.length ≤ 2 ∧ gs2.length ≤ 2 := by
  have h : ∀ l : List Str, l.Nodup → (∀ x ∈ l, x = "main" ∨ x = "side") → l.length ≤ 2 := fun l nd hm => by
    match l with
    | [] => simp
    | [_] => simp
    | [_, _] => simp
    | a :: b :: c :: r =>
      exfalso
      simp only [List.nodup_cons, List.mem_cons, not_or] at nd
      have ha := hm a (by simp)
      have hb := hm b (by simp)
      have hc := hm c (by simp)
      rcases ha with ha | ha <;> rcases hb with hb | hb <;> rcases hc with hc | hc
      all_goals first
        | exact nd.1.1 (ha.trans hb.symm)
        | exact nd.1.2.1 (ha.trans hc.symm)
        | exact nd.2.1.1 (hb.trans hc.symm)
  have h1 := h _ g.nd (fun x hx => by
    obtain ⟨q, hq, rfl⟩ := List.mem_map.mp hx
    exact (g.ok q hq).1)
  rw [List.length_map] at h1
  exact ⟨h1, by rw [g.pm.length_eq]; exact h1⟩
theorem gOkG_eq {gs gs2 : Gs} (g : GInv gs gs2) (n : Str) (m : Int) : gOkG gs2 n m = gOkG gs n m := by
  unfold gOkG
  rw [g.gl]
theorem ginv0 : GInv [] [] := ⟨List.Perm.refl _, List.nodup_nil, fun q hq => by simp at hq⟩
section
variable {P : Program} {w : World} {K : PySem.W.Frag} {mg : Str → Option Value} {base : Heap} {T : Tb} {C CR CS : Addr} {M : MD} {N : LD}
variable {f : Addr} {cdv : Value} {A : Around} {outer : List Env} {s : Shared} {H0 : Hp} {E : XK}

/-- for step in range(..): .. -/
theorem st3 {cm : Addr} (hr : Room 24 (A.deeper (envOfC "law" (defScope sLaw) s.heap.objs.size f (.ref cm)))) (m : Ms P w K mg base T C CR CS M) (l : La P w K mg base T CS N) (bm : LamX.TabB base mg cm T.m) :
    ∃ t, PS (lawCx P w K mg base f (.ref cm) A outer s H0 E) (lawBody.getD 3 noS) t ∧ ∀ (D : Ends) (d r dg gd : Addr) (ow : Owns) (ms : Int) (hs bs : List Str) (v0 v1 v4 v5 v6 v7 v8 v9 v10 v11 v12 v13 v14 v15 v16 v17 v18 v19 v20 v21 v22 v23 v24 v25 v26 v27 v28 v29 : Option V) (H : Hp), TOk T H → DiceAt H d → RAt C H r dg ow [] ms hs bs → H gd = some (.dK []) → gd ≠ dg →
      (∀ (H' : Hp) (gs gs2 : Gs) (g' : Addr) (w5 w7 w8 w29 : Option V), GoE T [d, dg] H H' → DiceAt H' d → RAt C H' r dg ow gs ms hs bs → H' g' = some (.dK (gk gs2)) → GInv gs gs2 → D.nx [v0, v1, some (.ref d), some (.ref g'), v4, w5, v6, w7, w8, v9, v10, v11, v12, v13, v14, v15, v16, v17, v18, v19, v20, v21, v22, v23, v24, v25, v26, v27, v28, w29, some (.ref r)] H') →
      t D [v0, v1, some (.ref d), some (.ref gd), v4, v5, v6, v7, v8, v9, v10, v11, v12, v13, v14, v15, v16, v17, v18, v19, v20, v21, v22, v23, v24, v25, v26, v27, v28, v29, some (.ref r)] H := by
  obtain ⟨t0, p0, q0⟩ := st30 (H0 := H0) (E := E) (outer := outer) (s := s) (f := f) (A := A) hr m l
  obtain ⟨t1, p1, q1⟩ := st31 (P := P) (w := w) (K := K) (mg := mg) (base := base) (H0 := H0) (E := E) (outer := outer) (s := s) (f := f) (A := A) hr
  obtain ⟨t2, p2, q2⟩ := st32 (H0 := H0) (E := E) (outer := outer) (s := s) (f := f) (A := A) hr m l bm
  obtain ⟨t3, p3, q3⟩ := st33 (H0 := H0) (E := E) (outer := outer) (s := s) (f := f) (A := A) hr m
  refine ⟨_, ps_for PassesOwn.never rfl (pi_range1 rfl m.Y.range (pa_cons (pe_call l.GD (hr.mono (by decide)) rfl l.mD l.kD l.bD .nil pass0 (pa_cons (pv 2) (pa_cons pe_int pa_nil))) pa_nil)) (pg_name (i := 7) scA.nd rfl (Or.inl rfl))
      (pss_cons p0 (pss_cons p1 (pss_cons p2 (pss_one p3)))), fun D d r dg gd ow ms hs bs v0 v1 v4 v5 v6 v7 v8 v9 v10 v11 v12 v13 v14 v15 v16 v17 v18 v19 v20 v21 v22 v23 v24 v25 v26 v27 v28 v29 H tk dk ra eg ng k1 => ?_⟩
  refine ⟨_, rfl, d, 6, rfl, by decide, by decide, dk, fun r0 xs0 h0 h6 dv0 => ⟨r0, rfl, by omega, by omega, for_range (lo := 0) (n := r0.toNat) (fun i σ G => GoE T [d, dg] (upd H d (.lst xs0)) G ∧ DiceAt G d ∧ ∃ (gs gs2 : Gs) (gd : Addr) (w5 w7 w8 w29 : Option V), σ = [v0, v1, some (.ref d), some (.ref gd), v4, w5, v6, w7, w8, v9, v10, v11, v12, v13, v14, v15, v16, v17, v18, v19, v20, v21, v22, v23, v24, v25, v26, v27, v28, w29, some (.ref r)] ∧ RAt C G r dg ow gs ms hs bs ∧ G gd = some (.dK (gk gs2)) ∧ gd ≠ dg ∧ GInv gs gs2) ?_ ?_ ?_⟩⟩
  · obtain ⟨g0, dk0⟩ := roll_go (S := [d]) (GoE.refl tk) (by simp) dk dv0
    obtain ⟨⟨dx, o, hh, bb, er, _⟩, ed⟩ := id ra
    exact ⟨GoE.refl g0.2, dk0, [], [], gd, v5, v7, v8, v29, rfl, ra.ext g0 (by simpa using dk.nd er) (by simpa using dk.nd ed), g0.at eg (by simpa using dk.nd eg), ng, ginv0⟩
  · intro i σ G hi h
    obtain ⟨g, dkG, gs, gs2, gd2, w5, w7, w8, w29, rfl, raG, egG, ngG, gi⟩ := h
    refine q0 _ _ _ _ _ _ _ _ _ _ _ _ _ _ _ _ _ _ _ _ _ _ _ _ _ _ _ _ _ _ _ _ _ g.2 dkG fun G1 n mn g1 dk1 hn h3 => ?_
    obtain ⟨⟨dx, o, hh, bb, er, _⟩, ed⟩ := id raG
    have ra1 := raG.ext g1 (by simpa using dkG.nd er) (by simpa using dkG.nd ed)
    have eg1 := g1.at egG (by simpa using dkG.nd egG)
    refine q1 _ _ gs2 n mn _ _ _ _ _ _ _ _ _ _ _ _ _ _ _ _ _ _ _ _ _ _ _ _ _ _ _ _ _ eg1 ?_
    rw [gOkG_eq gi]
    obtain ⟨l1, l2⟩ := gi.len
    refine q2 _ _ _ _ _ _ _ _ _ _ _ _ _ _ _ _ _ _ _ _ _ _ _ _ _ _ _ _ _ _ _ _ _ _ _ _ _ _ g1.2 ra1 (by omega) fun G2 g2 ra2 => ?_
    have ndd : d ≠ dg := by
      obtain ⟨⟨_, _, _, _, e1, _⟩, e2⟩ := id ra1
      exact (dk1.nd e2).symm
    have eg2 := g2.at eg1 (by simpa using ngG)
    have gi2 := gNext_inv gi hn h3
    have dk2 := dk1.goS g2 (by simpa using ndd)
    refine q3 _ _ gs2 n mn (gOkG gs n mn) _ _ _ _ _ _ _ _ _ _ _ _ _ _ _ _ _ _ _ _ _ _ _ _ _ _ _ _ g2.2 eg2 gi.nd2 (by omega) gi2.nd2 fun G3 g3 w3 f3 e3 => ?_
    have ra3 := ra2.ext w3 (by simp) (by simp)
    have n3 : g3 ≠ dg := fun z => by
      obtain ⟨ps, e⟩ := f3 _ (by rw [z]; exact ra2.gd)
      cases e
    exact ⟨((g.trans (g1.mono (by simp))).trans (g2.mono (by simp))).trans (Go.any w3), dk2.go w3, _, _, g3, _, _, _, _, rfl, ra3, e3, n3, gi2⟩
  · intro σ G h
    obtain ⟨g, dkG, gs, gs2, gd2, w5, w7, w8, w29, rfl, raG, egG, ngG, gi⟩ := h
    obtain ⟨g0, _⟩ := roll_go (S := [d]) (GoE.refl tk) (by simp) dk dv0
    exact k1 G gs gs2 gd2 w5 w7 w8 w29 ((g0.mono (by simp)).trans g) dkG raG egG gi
end
end R
end Text_R31
section Text_R32
set_option Elab.async false
set_option linter.all false
set_option maxRecDepth 100000
set_option maxHeartbeats 4000000
namespace R
open PySem PySem.Spec PyProof.Rows L2 Gx GxR LamY LamZ

def hd2 : List Str := ["fix", "add"]
def bs2 : List Str := ["*.o", "e/**"]
theorem cut_take {xs : List Str} {r : Int} (h0 : 0 ≤ r) : cutV (xs.map V.str) none (some r) = (xs.take r.toNat).map V.str := by
  unfold cutV
  show List.take ((if r < 0 then (r + ((xs.map V.str).length : Int)).toNat else min r.toNat (xs.map V.str).length) - 0) (List.drop 0 (xs.map V.str)) = _
  rw [if_neg (by omega), List.drop_zero, Nat.sub_zero, List.map_take, List.take_eq_take_iff]
  omega
theorem hd2_ok : ∀ n ∈ hd2, PyData.strOk n = true ∧ n ≠ "" := by decide +kernel
theorem bs2_ok : ∀ n ∈ bs2, PyData.strOk n = true ∧ n ≠ "" ∧ n.cps.toList.length ≤ 8 := by decide +kernel
theorem pats_st : ∀ n ∈ pats, PyData.strOk n = true := by decide +kernel
theorem eqv_self {n : Nat} {d : PyData} (h : Pl n d = true) : PyData.eqv d d = true := (pl_eqv n d d h h).mpr rfl
/-- owners as data -/
def rowQ (q : Str × List Str) : PyData := .tuple [.str q.1, .tuple (q.2.map .str)]
def ownD (ow : Owns) : PyData := .tuple (ow.map rowQ)
theorem pl_ownD {ow : Owns} (h : OwOk ow) : Pl 3 (ownD ow) = true := by
  show (ow.map rowQ).all (Pl 2) = true
  rw [List.all_eq_true]
  intro d hd
  obtain ⟨q, hq, rfl⟩ := List.mem_map.mp hd
  show (Pl 1 (.str q.1) && (Pl 1 (.tuple (q.2.map .str)) && true)) = true
  have h1 : Pl 1 (.str q.1) = true := pats_st _ (h q hq).1
  have h2 : Pl 1 (.tuple (q.2.map .str)) = true := pl_strs (fun x hx => (ppl_ok x ((h q hq).2.subset hx)).1)
  rw [h1, h2]
  rfl
theorem dp_own {K : PySem.W.Frag} {H : Hp} {xs : List V} {ow : Owns} (al : All2 (OwRow H) xs ow) : DpAll K H xs (ow.map rowQ) := dp_all2 (g := rowQ) (fun x y h => by
  obtain ⟨t, u, rfl, et, eu⟩ := h
  exact .tup (SqT.of et) (.cons (.str _) (.cons (.tup (SqT.of eu) (dp_strs _)) .nil))) _ _ al
section
variable {P : Program} {w : World} {K : PySem.W.Frag} {mg : Str → Option Value} {base : Heap} {T : Tb} {C CR CS : Addr} {M : MD} {N : LD}
variable {f : Addr} {cdv : Value} {A : Around} {outer : List Env} {s : Shared} {H0 : Hp} {E : XK}

/-- most, heads, barred = .. -/
theorem st4 (hr : Room 24 (A.deeper (envOfC "law" (defScope sLaw) s.heap.objs.size f cdv))) (l : La P w K mg base T CS N) :
    ∃ t, PS (lawCx P w K mg base f cdv A outer s H0 E) (lawBody.getD 4 noS) t ∧ ∀ (D : Ends) (d : Addr) (v0 v1 v3 v4 v5 v6 v7 v8 v9 v13 v14 v15 v16 v17 v18 v19 v20 v21 v22 v23 v24 v25 v26 v27 v28 v29 v30 : Option V) (u10 u11 u12 : Option V) (H : Hp), TOk T H → DiceAt H d →
      (∀ (H' : Hp) (mst : Int) (hl bl : Addr) (hs bs : List Str), GoE T [d] H H' → DiceAt H' d → H' hl = some (.lst (hs.map V.str)) → H' bl = some (.lst (bs.map V.str)) → hs.Sublist hd2 → bs.Sublist bs2 → 1 ≤ mst → mst ≤ 5 → D.nx [v0, v1, some (.ref d), v3, v4, v5, v6, v7, v8, v9, some (.int mst), some (.ref hl), some (.ref bl), v13, v14, v15, v16, v17, v18, v19, v20, v21, v22, v23, v24, v25, v26, v27, v28, v29, v30] H') →
      t D [v0, v1, some (.ref d), v3, v4, v5, v6, v7, v8, v9, u10, u11, u12, v13, v14, v15, v16, v17, v18, v19, v20, v21, v22, v23, v24, v25, v26, v27, v28, v29, v30] H := by
  refine ⟨_, ps_par3 (i := 10) (j := 11) (l := 12) rfl scA.nd rfl rfl rfl (by decide) (by decide) (by decide) rfl rfl rfl (pa_cons (pe_op op_add pe_int (pe_call l.GD (hr.mono (by decide)) rfl l.mD l.kD l.bD .nil pass0 (pa_cons (pv 2) (pa_cons pe_int pa_nil))))
      (pa_cons (pe_slice sl_list (pe_lst (pa_cons pe_str (pa_cons pe_str pa_nil))) po_none (po_some (pe_call l.GD (hr.mono (by decide)) rfl l.mD l.kD l.bD .nil pass0 (pa_cons (pv 2) (pa_cons pe_int pa_nil)))))
      (pa_cons (pe_slice sl_list (pe_lst (pa_cons pe_str (pa_cons pe_str pa_nil))) po_none (po_some (pe_call l.GD (hr.mono (by decide)) rfl l.mD l.kD l.bD .nil pass0 (pa_cons (pv 2) (pa_cons pe_int pa_nil))))) pa_nil))) (by rfl), fun D d v0 v1 v3 v4 v5 v6 v7 v8 v9 v13 v14 v15 v16 v17 v18 v19 v20 v21 v22 v23 v24 v25 v26 v27 v28 v29 v30 u10 u11 u12 H tk dk k1 => ?_⟩
  refine ⟨_, rfl, d, 5, rfl, by decide, by decide, dk, fun r1 xs1 h10 h15 dv1 => ⟨_, _, rfl, rfl, by show 2 ≤ sizeLine; decide, fun p hp => ?_⟩⟩
  obtain ⟨g1, dk1⟩ := roll_go (S := [d]) (GoE.refl tk) (by simp) dk dv1
  have np : p ≠ d := dk1.ne hp
  have w2 : Go T (upd H d (.lst xs1)) (upd (upd H d (.lst xs1)) p (.lst [.str "fix", .str "add"])) := go_upd g1.2 hp
  have ep : upd (upd H d (.lst xs1)) p (.lst [.str "fix", .str "add"]) p = some (.lst (hd2.map V.str)) := upd_same
  have g2 := g1.trans (Go.any w2)
  have dk2 := dk1.go w2
  refine ⟨_, rfl, d, 3, rfl, by decide, by decide, dk2, fun r2 xs2 h20 h23 dv2 => ?_⟩
  obtain ⟨g3, dk3⟩ := roll_go g2 (by simp) dk2 dv2
  have ep3 : upd (upd (upd H d (.lst xs1)) p (.lst [.str "fix", .str "add"])) d (.lst xs2) p = some (.lst (hd2.map V.str)) := by rw [upd_ne np]; exact ep
  have np3 : p ≠ d := np
  generalize upd (upd (upd H d (.lst xs1)) p (.lst [.str "fix", .str "add"])) d (.lst xs2) = G3 at g3 dk3 ep3 ⊢
  refine ⟨r2, rfl, p, _, rfl, SqL.of ep3, fun q hq => ?_⟩
  rw [cut_take h20]
  have w4 : Go T G3 (upd G3 q (.lst ((hd2.take r2.toNat).map V.str))) := go_upd g3.2 hq
  have eq4 : upd G3 q (.lst ((hd2.take r2.toNat).map V.str)) q = some (.lst ((hd2.take r2.toNat).map V.str)) := upd_same
  have nq : q ≠ d := dk3.ne hq
  have g4 := g3.trans (Go.any w4)
  have dk4 := dk3.go w4
  generalize upd G3 q (.lst ((hd2.take r2.toNat).map V.str)) = G4 at g4 dk4 eq4 ⊢
  refine ⟨by show 2 ≤ sizeLine; decide, fun p2 hp2 => ?_⟩
  have w5 : Go T G4 (upd G4 p2 (.lst [.str "*.o", .str "e/**"])) := go_upd g4.2 hp2
  have np2 : p2 ≠ d := dk4.ne hp2
  have ep5 : upd G4 p2 (.lst [.str "*.o", .str "e/**"]) p2 = some (.lst (bs2.map V.str)) := upd_same
  have eq5 := w5.at eq4
  have g5 := g4.trans (Go.any w5)
  have dk5 := dk4.go w5
  refine ⟨_, rfl, d, 3, rfl, by decide, by decide, dk5, fun r3 xs3 h30 h33 dv3 => ?_⟩
  obtain ⟨g6, dk6⟩ := roll_go g5 (by simp) dk5 dv3
  have ep6 : upd (upd G4 p2 (.lst [.str "*.o", .str "e/**"])) d (.lst xs3) p2 = some (.lst (bs2.map V.str)) := by rw [upd_ne np2]; exact ep5
  have eq6 : upd (upd G4 p2 (.lst [.str "*.o", .str "e/**"])) d (.lst xs3) q = some (.lst ((hd2.take r2.toNat).map V.str)) := by rw [upd_ne nq]; exact eq5
  generalize upd (upd G4 p2 (.lst [.str "*.o", .str "e/**"])) d (.lst xs3) = G6 at g6 dk6 ep6 eq6 ⊢
  refine ⟨r3, rfl, p2, _, rfl, SqL.of ep6, fun q2 hq2 => ?_⟩
  rw [cut_take h30]
  have w7 : Go T G6 (upd G6 q2 (.lst ((bs2.take r3.toNat).map V.str))) := go_upd g6.2 hq2
  exact ⟨_, _, _, rfl, k1 _ (1 + r1) q q2 _ _ (g6.trans (Go.any w7)) (dk6.go w7) (w7.at eq6) upd_same (List.take_sublist _ _) (List.take_sublist _ _) (by omega) (by omega)⟩
/-- rules.limit(most, heads, barred) -/
theorem st5 (hr : Room 24 (A.deeper (envOfC "law" (defScope sLaw) s.heap.objs.size f cdv))) (m : Ms P w K mg base T C CR CS M) :
    ∃ t, PS (lawCx P w K mg base f cdv A outer s H0 E) (lawBody.getD 5 noS) t ∧ ∀ (D : Ends) (r dg hl bl : Addr) (ow : Owns) (gs : Gs) (ms mst : Int) (hs bs hs2 bs2' : List Str) (v0 v1 v2 v3 v4 v5 v6 v7 v8 v9 v13 v14 v15 v16 v17 v18 v19 v20 v21 v22 v23 v24 v25 v26 v27 v28 v29 : Option V) (H : Hp), TOk T H → RAt C H r dg ow gs ms hs bs → H hl = some (.lst (hs2.map V.str)) → H bl = some (.lst (bs2'.map V.str)) → hs2.Sublist hd2 → bs2'.Sublist bs2 → 1 ≤ mst →
      (∀ H', GoE T [r] H H' → RAt C H' r dg ow gs mst hs2 bs2' → D.nx [v0, v1, v2, v3, v4, v5, v6, v7, v8, v9, some (.int mst), some (.ref hl), some (.ref bl), v13, v14, v15, v16, v17, v18, v19, v20, v21, v22, v23, v24, v25, v26, v27, v28, v29, some (.ref r)] H') →
      t D [v0, v1, v2, v3, v4, v5, v6, v7, v8, v9, some (.int mst), some (.ref hl), some (.ref bl), v13, v14, v15, v16, v17, v18, v19, v20, v21, v22, v23, v24, v25, v26, v27, v28, v29, some (.ref r)] H := by
  refine ⟨_, ps_expr (pe_meth (pv 30) m.L.cl m.mL m.GL (hr.mono (by decide)) m.bL .nil passN (pa_cons (pv 10) (pa_cons (pv 11) (pa_cons (pv 12) pa_nil)))), fun D r dg hl bl ow gs ms mst hs bs hs2 bs2' v0 v1 v2 v3 v4 v5 v6 v7 v8 v9 v13 v14 v15 v16 v17 v18 v19 v20 v21 v22 v23 v24 v25 v26 v27 v28 v29 H tk ra eh eb sh sb h1 k1 => ?_⟩
  obtain ⟨⟨dx, o, hh, bb, er, _⟩, _⟩ := id ra
  have ok : limOk mst hs2 bs2' = true := by
    unfold limOk
    rw [decide_eq_true h1, decide_eq_false fun z => (hd2_ok "" (sh.subset z)).2 rfl, decide_eq_false fun z => (bs2_ok "" (sb.subset z)).2.1 rfl]
    rfl
  exact ⟨_, rfl, r, dx, _, rfl, er, look_no (by decide +kernel), _, rfl, _, rfl, _, rfl, r, dg, hl, bl, mst, ow, gs, ms, hs, bs, hs2, bs2', rfl, ra, tk, .inl (SqL.of eh), .inl (SqL.of eb), fun _ H' g' ra' => k1 H' g' ra', fun z => by rw [ok] at z; cases z⟩
/-- if rules.guarded != guarded or .. -/
theorem st6 (hr : Room 24 (A.deeper (envOfC "law" (defScope sLaw) s.heap.objs.size f cdv))) (m : Ms P w K mg base T C CR CS M) :
    ∃ t, PS (lawCx P w K mg base f cdv A outer s H0 E) (lawBody.getD 6 noS) t ∧ ∀ (D : Ends) (r dg gd rl hl bl : Addr) (xs : List V) (ow : Owns) (gs gs2 : Gs) (mst : Int) (hs bs : List Str) (v0 v1 v2 v4 v5 v7 v8 v9 v13 v14 v15 v16 v17 v18 v19 v20 v21 v22 v23 v24 v25 v26 v27 v28 v29 : Option V) (H : Hp), TOk T H → RAt C H r dg ow gs mst hs bs → H gd = some (.dK (gk gs2)) → GInv gs gs2 →
      H rl = some (.lst xs) → All2 (RowL H) xs ow → ow.length ≤ 4 → OwOk ow → H hl = some (.lst (hs.map V.str)) → H bl = some (.lst (bs.map V.str)) → hs.Sublist hd2 → bs.Sublist bs2 →
      (∀ H', Go T H H' → D.nx [v0, v1, v2, some (.ref gd), v4, v5, some (.ref rl), v7, v8, v9, some (.int mst), some (.ref hl), some (.ref bl), v13, v14, v15, v16, v17, v18, v19, v20, v21, v22, v23, v24, v25, v26, v27, v28, v29, some (.ref r)] H') →
      t D [v0, v1, v2, some (.ref gd), v4, v5, some (.ref rl), v7, v8, v9, some (.int mst), some (.ref hl), some (.ref bl), v13, v14, v15, v16, v17, v18, v19, v20, v21, v22, v23, v24, v25, v26, v27, v28, v29, some (.ref r)] H := by
  have hu := hu_of hr
  refine ⟨_, ps_if (PW.pt (pw_or (pt_cmpR (op_ne_dictA (Nat.lt_of_succ_lt hu)) (pe_fld (pv 30) rfl) (pv 3) (nomark _))
      (pw_or (pt_cmpR (op_neD hr.units) (pe_fld (pv 30) rfl) (pe_callTy call_tuple_of (by rfl) m.Y.tuple (by decide +kernel) (pa_cons (pe_lc (own := [("pattern", 13), ("names", 14)]) (tt := tYes) rfl scA.nd (pi_list (pv 6)) (blkOk_by (N := NA) (sc := defScope sLaw) (by decide +kernel))
        (fun _ _ _ _ _ => pg_tupK K 2 rfl rfl (pgs_cons (pg_name (i := 13) scA.nd rfl (Or.inl rfl) (Or.inr rfl)) (pgs_cons (pg_name (i := 14) scA.nd rfl (Or.inl rfl) (Or.inr rfl)) pgs_nil))) (fun _ _ _ _ _ => pts_nil) (fun _ _ _ _ _ => pe_tup (pa_cons (pv 13) (pa_cons (pe_tupVK K rfl (i := 14) m.Y.tuple (by rfl) (pv 14)) pa_nil)))) pa_nil)) (nomark _))
      (pw_or1 (pt_cmpR (op_neD hr.units) (pe_tup (pa_cons (pe_fld (pv 30) rfl) (pa_cons (pe_fld (pv 30) rfl) (pa_cons (pe_fld (pv 30) rfl) pa_nil)))) (pe_tup (pa_cons (pv 10) (pa_cons (pe_tupV (i := 11) m.Y.tuple rfl (pv 11)) (pa_cons (pe_tupV (i := 12) m.Y.tuple rfl (pv 12)) pa_nil)))) (nomark _))))))
      (pss_one (ps_ret pe_bl)) pss_nil, fun D r dg gd rl hl bl xs ow gs gs2 mst hs bs v0 v1 v2 v4 v5 v7 v8 v9 v13 v14 v15 v16 v17 v18 v19 v20 v21 v22 v23 v24 v25 v26 v27 v28 v29 H tk ra eg gi erl al hle ok eh eb sh sb k1 => ?_⟩
  obtain ⟨⟨dx, o, hh, bb, er, ⟨ot, oxs, rfl, eo, oal⟩, ⟨th, rfl, eth⟩, ⟨tb, rfl, etb⟩⟩, ed⟩ := id ra
  refine ⟨_, rfl, r, C, dx, _, _, rfl, er, m.L.cl, m.L.nG, look_g, _, rfl, dg, gd, gk gs, gk gs2, rfl, rfl, ed, eg, ?_, ?_, _, rfl, iteF' (by decide) ?_⟩
  · rw [gk_len, gk_len, gi.pm.length_eq]
  · intro p hp
    obtain ⟨q, hq, rfl⟩ := List.mem_map.mp hp
    refine ⟨?_, rfl⟩
    rw [valV_gk, (gl_mem gi.nd2).mpr (gi.pm.mem_iff.mpr hq)]
    rfl
  refine ⟨_, rfl, r, C, dx, _, _, rfl, er, m.L.cl, m.L.nO, look_o, _, rfl, rl, rfl, ⟨_, SqL.of erl⟩, fun D1 hD1 => ?_⟩
  have n1 : rl ≠ D1 := ne_of_none erl hD1
  have w1 : Go T H (upd H D1 (.lst [])) := go_upd tk hD1
  have f1 : Fresh H D1 := fresh_none hD1
  refine lc_list (xs := xs) (fun i G => GoE T [D1] (upd H D1 (.lst [])) G ∧ ∃ acc, G D1 = some (.lst acc) ∧ All2 (OwRow G) acc (ow.take i)) ⟨GoE.refl w1.2, [], upd_same, All2.nil⟩ (fun i G _ h => h.1.seq (SqL.of (w1.at erl)) (by simpa using n1)) (fun i x G hix h => ?_) (fun G h => ?_)
  · obtain ⟨g, acc, eD, aa⟩ := h
    have gg : Go T H G := GoE.news w1 g fun b hb => by rw [List.mem_singleton.mp hb]; exact f1
    obtain ⟨q, hq, t, u, rfl, et, eu⟩ := al.at hix
    have et := gg.t _ _ et
    have eu := gg.at eu
    refine ⟨t, _, rfl, SqT.of et, rfl, _, _, rfl, _, _, rfl, rfl, rfl, _, rfl, u, _, rfl, .inl (SqL.of eu), fun l2 G2 n2 => ⟨by show 2 ≤ sizeLine; decide, fun v hv => ?_⟩⟩
    have w2 : Go T G G2 := n2.go gg.2
    have w3 : Go T G2 (upd G2 v (.tup [.str q.1, .ref l2])) := go_upd w2.2 hv
    have w23 := w2.trans w3
    have el := w3.t _ _ n2.1
    have ev : upd G2 v (.tup [.str q.1, .ref l2]) v = some (.tup [.str q.1, .ref l2]) := upd_same
    have eD3 := w23.at eD
    generalize upd G2 v (.tup [.str q.1, .ref l2]) = G3 at w3 w23 el ev eD3 ⊢
    have w4 : GoE T [D1] G3 (upd G3 D1 (.lst (acc ++ [.ref v]))) := go_set w23.2 eD3 mu_lst (by simp)
    refine ⟨acc, eD3, ?_, (g.trans (Go.any w23)).trans w4, _, upd_same, ?_⟩
    · rw [aa.1, List.length_take, sizeLine_eq]
      omega
    · rw [take_snoc hq]
      exact (aa.imp fun _ _ h => (h.ext w23.t).ext w4.t).snoc ⟨v, l2, rfl, w4.t _ _ ev, w4.t _ _ el⟩
  obtain ⟨g, acc, eD, aa⟩ := h
  rw [List.take_of_length_le (Nat.le_of_eq al.1.symm)] at aa
  have gg : Go T H G := GoE.news w1 g fun b hb => by rw [List.mem_singleton.mp hb]; exact f1
  refine ⟨D1, _, rfl, .inl ⟨SqL.of eD, fun t2 ht2 => ?_⟩⟩
  have w2 : Go T G (upd G t2 (.tup acc)) := go_upd gg.2 ht2
  have g2 := gg.trans w2
  have aa2 := aa.imp fun _ _ h => OwRow.ext h w2.t
  have et2 : upd G t2 (.tup acc) t2 = some (.tup acc) := upd_same
  generalize upd G t2 (.tup acc) = G2 at g2 aa2 et2 ⊢
  have oal2 := oal.imp fun _ _ h => OwRow.ext h g2.t
  have pw := pl_ownD ok
  refine ⟨_, _, .tup (SqT.of (g2.t _ _ eo)) (dp_own oal2), .tup (SqT.of et2) (dp_own aa2), pl_shaped pw (by decide), pl_shaped pw (by decide), _, rfl, ?_⟩
  rw [show PyData.eqv (.tuple (ow.map rowQ)) (.tuple (ow.map rowQ)) = true from eqv_self pw]
  refine iteF' (by decide) ?_
  have er2 := g2.at er
  have eh2 := g2.at eh
  have eb2 := g2.at eb
  have eth2 := g2.t _ _ eth
  have etb2 := g2.t _ _ etb
  refine ⟨_, rfl, r, C, dx, _, _, rfl, er2, m.L.cl, m.L.nM, look_m, _, rfl, r, C, dx, _, _, rfl, er2, m.L.cl, m.L.nH, look_h, _, rfl, r, C, dx, _, _, rfl, er2, m.L.cl, m.L.nB, look_b, by show 3 ≤ sizeLine; decide, fun p3 hp3 => ?_⟩
  have w3 : Go T G2 (upd G2 p3 (.tup [.int mst, .ref th, .ref tb])) := go_upd g2.2 hp3
  have g3 := g2.trans w3
  have ep3 : upd G2 p3 (.tup [.int mst, .ref th, .ref tb]) p3 = some (.tup [.int mst, .ref th, .ref tb]) := upd_same
  have eh3 := w3.at eh2
  have eb3 := w3.at eb2
  have eth3 := w3.t _ _ eth2
  have etb3 := w3.t _ _ etb2
  generalize upd G2 p3 (.tup [.int mst, .ref th, .ref tb]) = G3 at g3 ep3 eh3 eb3 eth3 etb3 ⊢
  refine ⟨_, rfl, hl, _, rfl, .inl (SqL.of eh3), fun l4 G4 n4 => ⟨bl, _, rfl, .inl (SqL.of ((n4.go (S := []) g3.2).at eb3)), fun l5 G5 n5 => ⟨by show 3 ≤ sizeLine; decide, fun p6 hp6 => ?_⟩⟩⟩
  have w4 : Go T G3 G4 := n4.go g3.2
  have w5 : Go T G4 G5 := n5.go w4.2
  have w6 : Go T G5 (upd G5 p6 (.tup [.int mst, .ref l4, .ref l5])) := go_upd w5.2 hp6
  have wz := (w4.trans w5).trans w6
  have el4 := (w5.trans w6).t _ _ n4.1
  have el5 := w6.t _ _ n5.1
  have pz : Pl 2 (.tuple [.int mst, .tuple (hs.map .str), .tuple (bs.map .str)]) = true := by
    show (true && (Pl 1 (.tuple (hs.map .str)) && (Pl 1 (.tuple (bs.map .str)) && true))) = true
    have h1 : Pl 1 (.tuple (hs.map .str)) = true := pl_strs (fun x hx => (hd2_ok x (sh.subset hx)).1)
    have h2 : Pl 1 (.tuple (bs.map .str)) = true := pl_strs (fun x hx => (bs2_ok x (sb.subset hx)).1)
    rw [h1, h2]
    rfl
  refine ⟨_, _, .tup (SqT.of (wz.t _ _ ep3)) (.cons (.int _) (.cons (.tup (SqT.of (wz.t _ _ eth3)) (dp_strs _)) (.cons (.tup (SqT.of (wz.t _ _ etb3)) (dp_strs _)) .nil))), .tup (SqT.of upd_same) (.cons (.int _) (.cons (.tup (SqT.of el4) (dp_strs _)) (.cons (.tup (SqT.of el5) (dp_strs _)) .nil))), pl_shaped pz (by decide), pl_shaped pz (by decide), _, rfl, ?_⟩
  rw [show PyData.eqv (.tuple [.int mst, .tuple (hs.map .str), .tuple (bs.map .str)]) (.tuple [.int mst, .tuple (hs.map .str), .tuple (bs.map .str)]) = true from eqv_self pz]
  exact iteF' (by decide) (k1 _ (g3.trans wz))
end
end R
end Text_R32
section Text_R33
set_option Elab.async false
set_option linter.all false
set_option maxRecDepth 100000
set_option maxHeartbeats 4000000
namespace R
open PySem PySem.Spec PyProof.Rows L2 Gx GxR LamY LamZ

theorem op_neDK {X : Cx} (K : PySem.W.Frag) (hK : X.K = K) (hu : X.A.units + 64 < cLine) : OpR X (compareOp .NotEq) (rNeD K) := by
  rw [← hK]
  exact op_neD hu
theorem op_eqDK {X : Cx} (K : PySem.W.Frag) (hK : X.K = K) (hu : X.A.units + 64 < cLine) : OpR X (compareOp .Eq) (rEqD K) := by
  rw [← hK]
  exact op_eqD hu
theorem call_tuple_ofK {X : Cx} (K : PySem.W.Frag) (hK : X.K = K) : CallR X (.type "tuple") (fun xs H Q => ∃ p ys, xs = [.ref p] ∧ ((SqL K H p ys ∧ ∀ l, H l = none → Q (.ref l) (upd H l (.tup ys))) ∨ (SqT K H p ys ∧ Q (.ref p) H))) := by
  rw [← hK]
  exact call_tuple_of
theorem call_list_ofK {X : Cx} (K : PySem.W.Frag) (hK : X.K = K) : CallR X (.type "list") (fun xs H Q => ∃ p ys, xs = [.ref p] ∧ (SqL K H p ys ∨ SqT K H p ys) ∧ ∀ l, H l = none → Q (.ref l) (upd H l (.lst ys))) := by
  rw [← hK]
  exact call_list_of
theorem ppl_get {i : Int} (h0 : 0 ≤ i) (h1 : i < 4) : ∃ p, p ∈ ppl ∧ atI (ppl.map V.str) i = some (.str p) := by
  have hl : i.toNat < ppl.length := by show i.toNat < 4; omega
  refine ⟨_, List.getElem_mem hl, ?_⟩
  unfold atI ixN
  rw [if_pos h0, if_pos (by show i < 4; omega)]
  show (ppl.map V.str)[i.toNat]? = _
  rw [List.getElem?_map, List.getElem?_eq_getElem hl]
  rfl
def needL (ow : Owns) (p : Str) : Option (Str × List Str) := if own ow p = [] then none else some (p, own ow p)
theorem need_l (ow : Owns) (A B : Files) : need ow A B = (lchg A B).filterMap (needL ow) := by
  rw [← chg_snd, List.filterMap_map]
  rfl
theorem lchg_mem {A B : Files} {p : Str} (h : p ∈ lchg A B) : p ∈ paths A B := (List.mem_filter.mp h).1
theorem lchg_len (A B : Files) : (lchg A B).length ≤ A.length + B.length := Nat.le_trans (List.length_filter_le _ _) (paths_len A B)
section
variable {P : Program} {w : World} {K : PySem.W.Frag} {mg : Str → Option Value} {base : Heap} {T : Tb} {C CR CS : Addr} {M : MD} {N : LD}
variable {f : Addr} {cdv : Value} {A : Around} {outer : List Env} {s : Shared} {H0 : Hp} {E : XK}

/-- one, other, who, agreed = .. -/
theorem st7 (hr : Room 24 (A.deeper (envOfC "law" (defScope sLaw) s.heap.objs.size f cdv))) (m : Ms P w K mg base T C CR CS M) (l : La P w K mg base T CS N) :
    ∃ t, PS (lawCx P w K mg base f cdv A outer s H0 E) (lawBody.getD 7 noS) t ∧ ∀ (D : Ends) (d p : Addr) (v0 v3 v4 v5 v6 v7 v8 v10 v11 v12 v13 v14 v18 v19 v20 v21 v22 v23 v24 v25 v26 v27 v28 v29 v30 : Option V) (u9 u15 u16 u17 : Option V) (H : Hp), TOk T H → DiceAt H d → H p = some (.lst (ppl.map V.str)) →
      (∀ (H' : Hp) (a b g : Addr) (FA FB : Files) (who : Str) (ag : List Str), GoE T [d] H H' → DiceAt H' d → H' a = some (.dK (fk FA)) → H' b = some (.dK (fk FB)) → FOk FA → FOk FB → who ∈ ppl → H' g = some (.lst (ag.map V.str)) → (∀ x ∈ ag, x ∈ ppl) → ag.length ≤ 4 → D.nx [v0, some (.ref p), some (.ref d), v3, v4, v5, v6, v7, v8, some (.ref a), v10, v11, v12, v13, v14, some (.ref b), some (.str who), some (.ref g), v18, v19, v20, v21, v22, v23, v24, v25, v26, v27, v28, v29, v30] H') →
      t D [v0, some (.ref p), some (.ref d), v3, v4, v5, v6, v7, v8, u9, v10, v11, v12, v13, v14, u15, u16, u17, v18, v19, v20, v21, v22, v23, v24, v25, v26, v27, v28, v29, v30] H := by
  refine ⟨_, ps_asg (pe_tup (pa_cons (pe_call l.GF (hr.mono (by decide)) rfl l.mF l.kF l.bF .nil pass0 (pa_cons (pv 2) pa_nil)) (pa_cons (pe_call l.GF (hr.mono (by decide)) rfl l.mF l.kF l.bF .nil pass0 (pa_cons (pv 2) pa_nil)) (pa_cons (pe_ix ix_list (pv 1) (pe_call l.GD (hr.mono (by decide)) rfl l.mD l.kD l.bD .nil pass0 (pa_cons (pv 2) (pa_cons pe_int pa_nil))) (fun _ _ => rfl))
      (pa_cons (pe_lc (own := [("k", 4)]) (g := gName 4) (tt := tYes) rfl scA.nd (pi_range1 rfl m.Y.range (pa_cons (pe_call l.GD (hr.mono (by decide)) rfl l.mD l.kD l.bD .nil pass0 (pa_cons (pv 2) (pa_cons pe_int pa_nil))) pa_nil)) (blkOk_by (N := NA) (sc := defScope sLaw) (by decide +kernel)) (fun _ _ _ _ _ => pg_name (i := 4) scA.nd rfl (Or.inl rfl) (Or.inr rfl)) (fun _ _ _ _ _ => pts_nil)
        (fun _ _ _ _ _ => pe_ix (ix_listK K rfl) (pv 1) (pe_call l.GD (hr.mono (by decide)) rfl l.mD l.kD l.bD .nil pass0 (pa_cons (pv 2) (pa_cons pe_int pa_nil))) (fun _ _ => rfl))) pa_nil)))))
      (pg_tup rfl (pgs_cons (pg_name (i := 9) scA.nd rfl (Or.inl rfl)) (pgs_cons (pg_name (i := 15) scA.nd rfl (Or.inl rfl)) (pgs_cons (pg_name (i := 16) scA.nd rfl (Or.inr rfl)) (pgs_cons (pg_name (i := 17) scA.nd rfl (Or.inl rfl)) pgs_nil))))), fun D d p v0 v3 v4 v5 v6 v7 v8 v10 v11 v12 v13 v14 v18 v19 v20 v21 v22 v23 v24 v25 v26 v27 v28 v29 v30 u9 u15 u16 u17 H tk dk hp k1 => ?_⟩
  have np : p ≠ d := dk.nl hp (strs_no _)
  refine ⟨_, rfl, d, rfl, dk, tk, fun H1 a FA g1 dk1 ea fa => ?_⟩
  refine ⟨_, rfl, d, rfl, dk1, g1.2, fun H2 b FB g2 dk2 eb fb => ?_⟩
  have ea2 := g2.at ea (by simpa using dk1.nd ea)
  have g12 := g1.trans g2
  have hp2 := g12.at hp (by simpa using np)
  refine ⟨_, rfl, _, rfl, d, 4, rfl, by decide, by decide, dk2, fun r3 xs3 h30 h34 dv3 => ?_⟩
  obtain ⟨g3, dk3⟩ := roll_go g12 (by simp) dk2 dv3
  have w3 : GoE T [d] H2 (upd H2 d (.lst xs3)) := (roll_go (S := [d]) (GoE.refl g2.2) (by simp) dk2 dv3).1
  have hp3 := w3.at hp2 (by simpa using np)
  have ea3 := w3.at ea2 (by simpa using dk2.nd ea2)
  have eb3 := w3.at eb (by simpa using dk2.nd eb)
  obtain ⟨who, hw, eat⟩ := ppl_get h30 h34
  generalize upd H2 d (.lst xs3) = H3 at g3 dk3 w3 hp3 ea3 eb3 ⊢
  refine ⟨p, _, _, _, rfl, rfl, SqL.of hp3, eat, _, rfl, d, 4, rfl, by decide, by decide, dk3, fun r4 xs4 h40 h44 dv4 => ⟨r4, rfl, by omega, by omega, fun D5 hD5 => ?_⟩⟩
  have w4 : GoE T [d] H3 (upd H3 d (.lst xs4)) := (roll_go (S := [d]) (GoE.refl g3.2) (by simp) dk3 dv4).1
  obtain ⟨g4, dk4⟩ := roll_go g3 (by simp) dk3 dv4
  have hp4 := w4.at hp3 (by simpa using np)
  have ea4 := w4.at ea3 (by simpa using dk3.nd ea3)
  have eb4 := w4.at eb3 (by simpa using dk3.nd eb3)
  generalize upd H3 d (.lst xs4) = H4 at g4 dk4 w4 hp4 ea4 eb4 hD5 ⊢
  have n5 : D5 ≠ d := dk4.ne hD5
  have w5 : Go T H4 (upd H4 D5 (.lst [])) := go_upd g4.2 hD5
  have np5 : p ≠ D5 := ne_of_none hp4 hD5
  have f5 : ∀ {b o}, H4 b = some o → b ≠ D5 := fun e => ne_of_none e hD5
  refine lc_range (lo := 0) (n := r4.toNat) (fun i G => GoE T [d, D5] (upd H4 D5 (.lst [])) G ∧ DiceAt G d ∧ ∃ ag : List Str, G D5 = some (.lst (ag.map V.str)) ∧ ag.length = i ∧ ∀ x ∈ ag, x ∈ ppl) ⟨GoE.refl w5.2, dk4.go w5, [], upd_same, rfl, fun x hx => by simp at hx⟩ (fun i G hi h => ?_) (fun G h => ?_)
  · obtain ⟨g, dkG, ag, eD, hl, ok⟩ := h
    have hpG := g.at (w5.at hp4) (by simp [np, np5])
    refine ⟨rfl, _, rfl, _, rfl, d, 4, rfl, by decide, by decide, dkG, fun r6 xs6 h60 h64 dv6 => ?_⟩
    obtain ⟨g6, dk6⟩ := roll_go g (by simp) dkG dv6
    have hp6 : upd G d (.lst xs6) p = some (.lst (ppl.map V.str)) := by rw [upd_ne np]; exact hpG
    have eD6 : upd G d (.lst xs6) D5 = some (.lst (ag.map V.str)) := by rw [upd_ne n5]; exact eD
    obtain ⟨y, hy, eat6⟩ := ppl_get h60 h64
    generalize upd G d (.lst xs6) = G6 at g6 dk6 hp6 eD6 ⊢
    have w7 : GoE T [d, D5] G6 (upd G6 D5 (.lst (ag.map V.str ++ [.str y]))) := go_set g6.2 eD6 mu_lst (by simp)
    refine ⟨p, _, _, _, rfl, rfl, SqL.of hp6, eat6, _, eD6, by rw [List.length_map, hl, sizeLine_eq]; omega, g6.trans w7, ?_, ag ++ [y], by rw [upd_same, List.map_append]; rfl, by rw [List.length_append, hl]; rfl, ?_⟩
    · obtain ⟨ys, e, k⟩ := dk6
      exact ⟨ys, by rw [upd_ne (Ne.symm n5)]; exact e, k⟩
    · intro x hx
      rcases List.mem_append.mp hx with z | z
      · exact ok x z
      · rw [List.mem_singleton.mp z]; exact hy
  obtain ⟨g, dkG, ag, eD, hl, ok⟩ := h
  have gr : GoE T [d] H4 G := by
    refine ⟨fun b o e nt mm => g.1 b o (w5.1 b o e nt (.inl (by simp))) nt ?_, g.2⟩
    rcases mm with mm | mm
    · refine .inl ?_
      simp only [List.mem_cons, List.not_mem_nil, or_false, not_or] at mm ⊢
      exact ⟨mm, f5 e⟩
    · exact .inr mm
  have eaG := gr.at ea4 (by simpa using dk4.nd ea4)
  have ebG := gr.at eb4 (by simpa using dk4.nd eb4)
  have gg := g4.trans gr
  refine ⟨by show 4 ≤ sizeLine; decide, fun t ht => ⟨t, _, rfl, SqT.of upd_same, rfl, _, _, rfl, _, _, rfl, _, _, rfl, _, _, rfl, rfl, ?_⟩⟩
  have w8 : Go T G (upd G t (.tup [.ref a, .ref b, .str who, .ref D5])) := go_upd gg.2 ht
  exact k1 _ a b D5 FA FB who ag (gg.trans (Go.any w8)) (dkG.go w8) (w8.at eaG) (w8.at ebG) fa fb hw (w8.at eD) ok (by omega)
/-- paths = _law_changed(one, other) -/
theorem st8 (hr : Room 24 (A.deeper (envOfC "law" (defScope sLaw) s.heap.objs.size f cdv))) (l : La P w K mg base T CS N) :
    ∃ t, PS (lawCx P w K mg base f cdv A outer s H0 E) (lawBody.getD 8 noS) t ∧ ∀ (D : Ends) (a b : Addr) (FA FB : Files) (v0 v1 v2 v3 v4 v5 v6 v7 v8 v10 v11 v12 v13 v14 v16 v17 v19 v20 v21 v22 v23 v24 v25 v26 v27 v28 v29 v30 : Option V) (u18 : Option V) (H : Hp), TOk T H → H a = some (.dK (fk FA)) → H b = some (.dK (fk FB)) → FOk FA → FOk FB →
      (∀ (H' : Hp) (pl : Addr), Go T H H' → H' pl = some (.lst ((lchg FA FB).map V.str)) → D.nx [v0, v1, v2, v3, v4, v5, v6, v7, v8, some (.ref a), v10, v11, v12, v13, v14, some (.ref b), v16, v17, some (.ref pl), v19, v20, v21, v22, v23, v24, v25, v26, v27, v28, v29, v30] H') →
      t D [v0, v1, v2, v3, v4, v5, v6, v7, v8, some (.ref a), v10, v11, v12, v13, v14, some (.ref b), v16, v17, u18, v19, v20, v21, v22, v23, v24, v25, v26, v27, v28, v29, v30] H := by
  refine ⟨_, ps_set (i := 18) scA.nd rfl (Or.inl rfl) (pe_call l.GC (hr.mono (by decide)) rfl l.mC l.kC l.bC .nil pass0 (pa_cons (pv 9) (pa_cons (pv 15) pa_nil))), fun D a b FA FB v0 v1 v2 v3 v4 v5 v6 v7 v8 v10 v11 v12 v13 v14 v16 v17 v19 v20 v21 v22 v23 v24 v25 v26 v27 v28 v29 v30 u18 H tk ea eb fa fb k1 => ?_⟩
  have := fa.len
  have := fb.len
  exact ⟨_, rfl, _, rfl, a, b, FA, FB, rfl, ea, eb, by omega, by omega, tk, fun H' pl g e => k1 H' pl g e⟩
/-- need = .. -/
theorem st9 (hr : Room 24 (A.deeper (envOfC "law" (defScope sLaw) s.heap.objs.size f cdv))) (m : Ms P w K mg base T C CR CS M) (l : La P w K mg base T CS N) :
    ∃ t, PS (lawCx P w K mg base f cdv A outer s H0 E) (lawBody.getD 9 noS) t ∧ ∀ (D : Ends) (pl rl : Addr) (xs : List V) (ow : Owns) (FA FB : Files) (v0 v1 v2 v3 v4 v5 v7 v8 v9 v10 v11 v12 v13 v14 v15 v16 v17 v19 v21 v22 v23 v24 v25 v26 v27 v28 v29 v30 : Option V) (u20 : Option V) (H : Hp), TOk T H → H pl = some (.lst ((lchg FA FB).map V.str)) → H rl = some (.lst xs) → All2 (RowL H) xs ow → ow.length ≤ 4 → OwOk ow → FOk FA → FOk FB →
      (∀ (H' : Hp) (nl : Addr) (ys : List V), Go T H H' → H' nl = some (.lst ys) → All2 (OwRow H') ys (need ow FA FB) → D.nx [v0, v1, v2, v3, v4, v5, some (.ref rl), v7, v8, v9, v10, v11, v12, v13, v14, v15, v16, v17, some (.ref pl), v19, some (.ref nl), v21, v22, v23, v24, v25, v26, v27, v28, v29, v30] H') →
      t D [v0, v1, v2, v3, v4, v5, some (.ref rl), v7, v8, v9, v10, v11, v12, v13, v14, v15, v16, v17, some (.ref pl), v19, u20, v21, v22, v23, v24, v25, v26, v27, v28, v29, v30] H := by
  refine ⟨_, ps_setLc (i := 20) (own := [("path", 19)]) (g := gName 19) rfl scA.nd rfl rfl (by rfl) (pi_list (pv 18)) (blkOk_by (N := NA) (sc := defScope sLaw) (by decide +kernel)) (fun _ _ _ _ _ => pg_name (i := 19) scA.nd rfl (Or.inl rfl) (Or.inr rfl))
      (fun _ _ _ _ _ => pts_one (pt_cmpR (op_neDK K rfl hr.units) (pe_call l.GW (hr.mono (by decide)) rfl l.mW l.kW l.bW .nil pass0 (pa_cons (pv 6) (pa_cons (pv 19) pa_nil))) (pe_lst pa_nil) (nomark _)))
      (fun _ _ _ _ _ => pe_tup (pa_cons (pv 19) (pa_cons (pe_callTy (call_tuple_ofK K rfl) (by rfl) m.Y.tuple (by decide +kernel) (pa_cons (pe_call l.GW (hr.mono (by decide)) rfl l.mW l.kW l.bW .nil pass0 (pa_cons (pv 6) (pa_cons (pv 19) pa_nil))) pa_nil)) pa_nil))), fun D pl rl xs ow FA FB v0 v1 v2 v3 v4 v5 v7 v8 v9 v10 v11 v12 v13 v14 v15 v16 v17 v19 v21 v22 v23 v24 v25 v26 v27 v28 v29 v30 u20 H tk epl erl al hl ok fa fb k1 => ?_⟩
  refine ⟨_, rfl, pl, rfl, ⟨_, SqL.of epl⟩, fun D1 hD1 => ?_⟩
  have n1 : pl ≠ D1 := ne_of_none epl hD1
  have w1 : Go T H (upd H D1 (.lst [])) := go_upd tk hD1
  have f1 : Fresh H D1 := fresh_none hD1
  refine lc_list (xs := (lchg FA FB).map V.str) (fun i G => GoE T [D1] (upd H D1 (.lst [])) G ∧ ∃ acc, G D1 = some (.lst acc) ∧ All2 (OwRow G) acc (((lchg FA FB).take i).filterMap (needL ow))) ⟨GoE.refl w1.2, [], upd_same, All2.nil⟩ (fun i G _ h => h.1.seq (SqL.of (w1.at epl)) (by simpa using n1)) (fun i x G hix h => ?_) (fun G h => ?_)
  · obtain ⟨g, acc, eD, aa⟩ := h
    have gg : Go T H G := GoE.news w1 g fun b hb => by rw [List.mem_singleton.mp hb]; exact f1
    obtain ⟨y, hy, rfl⟩ := str_at hix
    have yok := paths_ok fa.ok fb.ok y (lchg_mem (List.mem_of_getElem? hy))
    have sml := ok.small hl
    have nms := ok.names
    have hacc : acc.length ≤ 20 := by
      rw [aa.1]
      refine Nat.le_trans (List.length_filterMap_le _ _) ?_
      rw [List.length_take]
      have := lchg_len FA FB
      have := fa.len
      have := fb.len
      omega
    refine ⟨rfl, _, rfl, _, rfl, rl, y, xs, ow, rfl, SqL.of (gg.at erl), al.imp fun _ _ h => h.go gg, sml, nms, yok.1, gg.2, fun G2 l2 g2 _ e2 => ⟨by decide, fun l3 hl3 => ?_⟩⟩
    have w3 : Go T G2 (upd G2 l3 (.lst [])) := go_upd g2.2 hl3
    have e23 := w3.at e2
    have e33 : upd G2 l3 (.lst []) l3 = some (.lst []) := upd_same
    have g23 := g2.trans w3
    generalize upd G2 l3 (.lst []) = G3 at w3 e23 e33 g23 ⊢
    have p1 : Pl 1 (.list ((own ow y).map PyData.str)) = true := pl_strs (own_ok nms y)
    refine ⟨_, _, .lst (SqL.of e23) (dp_strs _), .lst (SqL.of e33) .nil, pl_shaped p1 (by decide), by decide, _, rfl, ?_⟩
    have ev : PyData.eqv (.list ((own ow y).map PyData.str)) (.list []) = decide (own ow y = []) := by
      rw [Bool.eq_iff_iff, decide_eq_true_iff, pl_eqv 1 _ _ p1 rfl, PyData.list.injEq, List.map_eq_nil_iff]
    rw [ev, take_snoc hy, List.filterMap_append]
    have gg3 := gg.trans g23
    have eD3 := g23.at eD
    by_cases hn : own ow y = []
    · have e1 : [y].filterMap (needL ow) = [] := by
        have hw : needL ow y = none := if_pos hn
        simp [hw]
      rw [e1, List.append_nil]
      exact (if_neg (by rw [decide_eq_true hn]; decide)).mpr ⟨g.trans (Go.any g23), acc, eD3, aa.imp fun _ _ h => h.ext g23.t⟩
    · have e1 : [y].filterMap (needL ow) = [(y, own ow y)] := by
        have hw : needL ow y = some (y, own ow y) := if_neg hn
        simp [hw]
      rw [e1]
      refine (if_pos (by rw [decide_eq_false hn]; rfl)).mpr ⟨_, rfl, _, rfl, _, rfl, rl, y, xs, ow, rfl, SqL.of (gg3.at erl), al.imp fun _ _ h => h.go gg3, sml, nms, yok.1, gg3.2, fun G4 l4 g4 _ e4 => ⟨l4, _, rfl, .inl ⟨SqL.of e4, fun l5 hl5 => ⟨by show 2 ≤ sizeLine; decide, fun t ht => ?_⟩⟩⟩⟩
      have w5 : Go T G4 (upd G4 l5 (.tup ((own ow y).map V.str))) := go_upd g4.2 hl5
      have w6 : Go T (upd G4 l5 (.tup ((own ow y).map V.str))) (upd (upd G4 l5 (.tup ((own ow y).map V.str))) t (.tup [.str y, .ref l5])) := go_upd w5.2 ht
      have ww := (g4.trans w5).trans w6
      have e5 := w6.t _ _ (show upd G4 l5 (.tup ((own ow y).map V.str)) l5 = some (.tup ((own ow y).map V.str)) from upd_same)
      have e6 : upd (upd G4 l5 (.tup ((own ow y).map V.str))) t (.tup [.str y, .ref l5]) t = some (.tup [.str y, .ref l5]) := upd_same
      have eD6 := ww.at eD3
      generalize upd (upd G4 l5 (.tup ((own ow y).map V.str))) t (.tup [.str y, .ref l5]) = G6 at ww e5 e6 eD6 ⊢
      have w7 : GoE T [D1] G6 (upd G6 D1 (.lst (acc ++ [.ref t]))) := go_set ww.2 eD6 mu_lst (by simp)
      refine ⟨acc, eD6, by rw [sizeLine_eq]; omega, ((g.trans (Go.any g23)).trans (Go.any ww)).trans w7, _, upd_same, ?_⟩
      exact (aa.imp fun _ _ h => ((h.ext g23.t).ext ww.t).ext w7.t).snoc ⟨t, l5, rfl, w7.t _ _ e6, w7.t _ _ e5⟩
  · obtain ⟨g, acc, eD, aa⟩ := h
    rw [List.length_map, List.take_length, ← need_l] at aa
    exact k1 G D1 acc (GoE.news w1 g fun b hb => by rw [List.mem_singleton.mp hb]; exact f1) eD aa
end
end R
end Text_R33
section Text_R34
set_option Elab.async false
set_option linter.all false
set_option maxRecDepth 100000
set_option maxHeartbeats 4000000
namespace R
open PySem PySem.Spec PyProof.Rows L2 Gx GxR LamY LamZ

theorem LstAt.go {T : Tb} {H H' : Hp} {v : V} {ns : List Str} (h : LstAt H v ns) (g : Go T H H') : LstAt H' v ns := let ⟨t, a, b⟩ := h; ⟨t, a, g.at b⟩
/-- lists of texts in a list apart from D -/
def LstN (B : List Addr) (H : Hp) (v : V) (ns : List Str) : Prop := ∃ t, v = .ref t ∧ H t = some (.lst (ns.map V.str)) ∧ t ∉ B
theorem LstN.ext {T : Tb} {S B : List Addr} {H H' : Hp} {v : V} {ns : List Str} (h : LstN B H v ns) (g : GoE T S H H') (k : ∀ b ∈ S, b ∈ B) : LstN B H' v ns := by
  obtain ⟨t, a, b, n⟩ := h
  exact ⟨t, a, g.at b fun m => n (k t m), n⟩
theorem LstN.l {B : List Addr} {H : Hp} {v : V} {ns : List Str} (h : LstN B H v ns) : LstAt H v ns := let ⟨t, a, b, _⟩ := h; ⟨t, a, b⟩
def lstD (ns : List Str) : PyData := .list (ns.map .str)
theorem dp_lsts {K : PySem.W.Frag} {H : Hp} {xs : List V} {ls : List (List Str)} (al : All2 (LstAt H) xs ls) : DpAll K H xs (ls.map lstD) := dp_all2 (g := lstD) (fun x y h => by
  obtain ⟨t, rfl, et⟩ := h
  exact .lst (SqL.of et) (dp_strs _)) _ _ al
theorem pl_lsts {ls : List (List Str)} (h : ∀ l ∈ ls, ∀ x ∈ l, okS x) : Pl 2 (.list (ls.map lstD)) = true := by
  show (ls.map lstD).all (Pl 1) = true
  rw [List.all_eq_true]
  intro d hd
  obtain ⟨l, hl, rfl⟩ := List.mem_map.mp hd
  exact pl_strs (h l hl)
theorem pl_rows {nd : Owns} (h : ∀ q ∈ nd, okS q.1 ∧ ∀ x ∈ q.2, okS x) : Pl 3 (.list (nd.map rowQ)) = true := by
  show (nd.map rowQ).all (Pl 2) = true
  rw [List.all_eq_true]
  intro d hd
  obtain ⟨q, hq, rfl⟩ := List.mem_map.mp hd
  show (Pl 1 (.str q.1) && (Pl 1 (.tuple (q.2.map .str)) && true)) = true
  have h1 : Pl 1 (.str q.1) = true := (h q hq).1
  have h2 : Pl 1 (.tuple (q.2.map .str)) = true := pl_strs (h q hq).2
  rw [h1, h2]
  rfl
theorem need_ok {ow : Owns} {A B : Files} (hA : filesOk A) (hB : filesOk B) (hn : namesOk ow) : ∀ q ∈ need ow A B, okS q.1 ∧ (∀ x ∈ q.2, okS x) ∧ q.1.cps.toList.length ≤ 1000 := fun q hq => by
  obtain ⟨r, hr, e⟩ := List.mem_filterMap.mp hq
  have hp := paths_ok hA hB _ (chg_mem hr)
  unfold needOf at e
  split at e
  · cases e
  · cases e
    exact ⟨hp.2, own_ok hn _, hp.1⟩
/-- [(x, 1) for x in .. if ..] of texts -/
theorem lc_pairsP {T : Tb} {J : It} {St : Hp → Prop} {xs : List Str} {i : Nat} {tt : TT} {te : TE} {σ : L2.St} {H1 : Hp} {D : Addr} {Qd : Hp → Prop} (pb : Str → Bool) (ov : Ov J St (xs.map V.str)) (tk : TOk T H1) (hD : H1 D = none) (hst : ∀ G, GoE T [D] (upd H1 D (.lst [])) G → St G) (hl : xs.length ≤ 1000)
    (htt : ∀ (y : Str) (G : Hp) (k : Bool → Hp → Prop), k (pb y) G → tt ((wipe σ [i]).set i (some (.str y))) G k)
    (hte : ∀ (x : Str) (G : Hp) (Q' : VK), (∀ p, G p = none → Q' (.ref p) (upd G p (.tup [.str x, .int 1]))) → te ((wipe σ [i]).set i (some (.str x))) G Q')
    (h : ∀ G ps, GoE T [D] (upd H1 D (.lst [])) G → G D = some (.lst (ps.map V.ref)) → All2 (fun p (x : Str) => G p = some (.tup [.str x, .int 1])) ps (xs.filter pb) → Qd G) :
    ∃ W : Nat → Nat → Hp → Prop, (∃ m, W 0 m (upd H1 D (.lst []))) ∧ ∀ j m H, W j m H →
      (J.stop j H ∧ Qd H) ∨ (J.go j H ∧ ∃ Nx : Hp → Prop, (∀ H', Nx H' → ∃ m', m' < m ∧ W (j + 1) m' H') ∧ ∀ x H', J.yld j H x H' → gName i x (wipe σ [i]) H' fun σ2 H2 => wipe σ2 [i] = wipe σ [i] ∧ tt σ2 H2 fun b H3 =>
        if b = true then te σ2 H3 fun y H4 => ∃ acc, H4 D = some (.lst acc) ∧ acc.length < sizeLine ∧ Nx (upd H4 D (.lst (acc ++ [y]))) else Nx H3) := by
  have hle : (xs.map V.str).length = xs.length := List.length_map _
  refine ⟨fun j m G => j + m = xs.length ∧ GoE T [D] (upd H1 D (.lst [])) G ∧ ∃ ps, G D = some (.lst (ps.map V.ref)) ∧ All2 (fun p (x : Str) => G p = some (.tup [.str x, .int 1])) ps ((xs.take j).filter pb), ⟨xs.length, Nat.zero_add _, GoE.refl (go_upd (S := [D]) tk hD).2, [], upd_same, All2.nil⟩, fun j m G w => ?_⟩
  obtain ⟨e, g, ps, eD, al⟩ := w
  rcases Nat.lt_or_ge j xs.length with hj | hj
  · refine .inr ⟨ov.go j _ (hst _ g) (by rw [hle]; exact hj), fun G => GoE T [D] (upd H1 D (.lst [])) G ∧ ∃ ps, G D = some (.lst (ps.map V.ref)) ∧ All2 (fun p (x : Str) => G p = some (.tup [.str x, .int 1])) ps ((xs.take (j + 1)).filter pb), fun G' q => ⟨m - 1, by omega, by omega, q⟩, fun x G' yy => ?_⟩
    obtain ⟨rfl, hx⟩ := ov.yld j _ x G' (hst _ g) (by rw [hle]; exact hj) yy
    clear yy
    obtain ⟨y, hy, rfl⟩ := str_at hx
    refine ⟨wipe_one, htt y _ _ ?_⟩
    rw [filter_snoc hy]
    by_cases hb : pb y = true
    · rw [if_pos hb, if_pos hb]
      refine hte y _ _ fun p hp => ?_
      have w1 : GoE T [D] G' (upd G' p (.tup [.str y, .int 1])) := go_upd g.2 hp
      have eD1 : upd G' p (.tup [.str y, .int 1]) D = some (.lst (ps.map V.ref)) := by rw [upd_ne (ne_of_none eD hp)]; exact eD
      have w2 : GoE T [D] (upd G' p (.tup [.str y, .int 1])) (upd (upd G' p (.tup [.str y, .int 1])) D (.lst (ps.map V.ref ++ [.ref p]))) := go_set w1.2 eD1 mu_lst (by simp)
      refine ⟨_, eD1, ?_, (g.trans w1).trans w2, ps ++ [p], ?_, ?_⟩
      · rw [List.length_map, al.1, sizeLine_eq]
        have h1 := List.length_filter_le pb (xs.take j)
        rw [List.length_take] at h1
        omega
      · rw [upd_same, List.map_append]
        rfl
      · exact (al.imp fun q x e => (w1.trans w2).t _ _ e).snoc (w2.t _ _ upd_same)
    · rw [if_neg hb, if_neg hb, List.append_nil]
      exact ⟨g, ps, eD, al⟩
  · have e2 : j = xs.length := by omega
    subst e2
    refine .inl ⟨?_, h G ps g eD ?_⟩
    · have := ov.stop G (hst _ g)
      rw [hle] at this
      exact this
    · rw [List.take_length] at al
      exact al
section
variable {P : Program} {w : World} {K : PySem.W.Frag} {mg : Str → Option Value} {base : Heap} {T : Tb} {C CR CS : Addr} {M : MD} {N : LD}
variable {f : Addr} {cdv : Value} {A : Around} {outer : List Env} {s : Shared} {H0 : Hp} {E : XK}

/-- if [list(rules.owners_of(path)) ..] != [_law_owners(rows, path) ..] or list(rules.needed(one, other)) != need: .. -/
theorem st10 (hr : Room 24 (A.deeper (envOfC "law" (defScope sLaw) s.heap.objs.size f cdv))) (m : Ms P w K mg base T C CR CS M) (l : La P w K mg base T CS N) :
    ∃ t, PS (lawCx P w K mg base f cdv A outer s H0 E) (lawBody.getD 10 noS) t ∧ ∀ (D : Ends) (r dg rl a b nl : Addr) (xs ys : List V) (ow : Owns) (gs : Gs) (ms : Int) (hs bs : List Str) (FA FB : Files) (v0 v1 v2 v3 v4 v5 v7 v8 v10 v11 v12 v13 v14 v16 v17 v18 v19 v21 v22 v23 v24 v25 v26 v27 v28 v29 : Option V) (H : Hp), TOk T H → RAt C H r dg ow gs ms hs bs → H rl = some (.lst xs) → All2 (RowL H) xs ow → ow.length ≤ 4 → OwOk ow →
      H a = some (.dK (fk FA)) → H b = some (.dK (fk FB)) → FOk FA → FOk FB → H nl = some (.lst ys) → All2 (OwRow H) ys (need ow FA FB) →
      (∀ H', Go T H H' → D.nx [v0, v1, v2, v3, v4, v5, some (.ref rl), v7, v8, some (.ref a), v10, v11, v12, v13, v14, some (.ref b), v16, v17, v18, v19, some (.ref nl), v21, v22, v23, v24, v25, v26, v27, v28, v29, some (.ref r)] H') →
      t D [v0, v1, v2, v3, v4, v5, some (.ref rl), v7, v8, some (.ref a), v10, v11, v12, v13, v14, some (.ref b), v16, v17, v18, v19, some (.ref nl), v21, v22, v23, v24, v25, v26, v27, v28, v29, some (.ref r)] H := by
  refine ⟨_, ps_if (PW.pt (pw_or (pt_cmpR (op_neD hr.units)
      (pe_lc (own := [("path", 19)]) (g := gName 19) (tt := tYes) rfl scA.nd (pi_list (pe_lst (pa_cons pe_str (pa_cons pe_str (pa_cons pe_str (pa_cons pe_str (pa_cons pe_str pa_nil))))))) (blkOk_by (N := NA) (sc := defScope sLaw) (by decide +kernel)) (fun _ _ _ _ _ => pg_name (i := 19) scA.nd rfl (Or.inl rfl) (Or.inr rfl)) (fun _ _ _ _ _ => pts_nil)
        (fun _ _ _ _ _ => pe_callTy (call_list_ofK K rfl) (by rfl) m.Y.list (by decide +kernel) (pa_cons (pe_meth (pv 30) m.L.cl m.mW m.GW (hr.mono (by decide)) m.bW .nil pass0 (pa_cons (pv 19) pa_nil)) pa_nil)))
      (pe_lc (own := [("path", 19)]) (g := gName 19) (tt := tYes) rfl scA.nd (pi_list (pe_lst (pa_cons pe_str (pa_cons pe_str (pa_cons pe_str (pa_cons pe_str (pa_cons pe_str pa_nil))))))) (blkOk_by (N := NA) (sc := defScope sLaw) (by decide +kernel)) (fun _ _ _ _ _ => pg_name (i := 19) scA.nd rfl (Or.inl rfl) (Or.inr rfl)) (fun _ _ _ _ _ => pts_nil)
        (fun _ _ _ _ _ => pe_call l.GW (hr.mono (by decide)) rfl l.mW l.kW l.bW .nil pass0 (pa_cons (pv 6) (pa_cons (pv 19) pa_nil)))) (nomark _))
      (pw_or1 (pt_cmpR (op_neD hr.units) (pe_callTy call_list_of (by rfl) m.Y.list (by decide +kernel) (pa_cons (pe_meth (pv 30) m.L.cl m.mN m.GN (hr.mono (by decide)) m.bN .nil pass0 (pa_cons (pv 9) (pa_cons (pv 15) pa_nil))) pa_nil)) (pv 20) (nomark _)))))
      (pss_one (ps_ret pe_bl)) pss_nil, fun D r dg rl a b nl xs ys ow gs ms hs bs FA FB v0 v1 v2 v3 v4 v5 v7 v8 v10 v11 v12 v13 v14 v16 v17 v18 v19 v21 v22 v23 v24 v25 v26 v27 v28 v29 H tk ra erl al hl ok ea eb fa fb enl aln k1 => ?_⟩
  have sml := ok.small hl
  have nms := ok.names
  have pok : ∀ {i : Nat} {y : Str}, pth5[i]? = some y → y.cps.toList.length ≤ 1000 := fun h => (pth5_ok _ (List.mem_of_getElem? h)).1
  refine ⟨by show 5 ≤ sizeLine; decide, fun L1 hL1 => ⟨L1, rfl, ⟨_, SqL.of upd_same⟩, fun D1 hD1 => ?_⟩⟩
  have w0 : Go T H (upd H L1 (.lst [.str "a", .str "d/x", .str "d/y", .str "k.o", .str "e/f/g"])) := go_upd tk hL1
  have e1 : upd H L1 (.lst [.str "a", .str "d/x", .str "d/y", .str "k.o", .str "e/f/g"]) L1 = some (.lst (pth5.map V.str)) := upd_same
  generalize upd H L1 (.lst [.str "a", .str "d/x", .str "d/y", .str "k.o", .str "e/f/g"]) = H1 at w0 e1 hD1 ⊢
  have n1 : L1 ≠ D1 := ne_of_none e1 hD1
  have w1 : Go T H1 (upd H1 D1 (.lst [])) := go_upd w0.2 hD1
  have f1 : Fresh H D1 := fresh_of w0 hD1
  have w01 := w0.trans w1
  refine lc_list (xs := pth5.map V.str) (fun i G => GoE T [D1] (upd H1 D1 (.lst [])) G ∧ ∃ acc, G D1 = some (.lst acc) ∧ All2 (LstN [D1] G) acc ((pth5.take i).map (own ow))) ⟨GoE.refl w1.2, [], upd_same, All2.nil⟩ (fun i G _ h => h.1.seq (SqL.of (w1.at e1)) (by simpa using n1)) (fun i x G hix h => ?_) (fun G h => ?_)
  · obtain ⟨g, acc, eD, aa⟩ := h
    obtain ⟨y, hy, rfl⟩ := str_at hix
    have gg : Go T H G := GoE.news w01 g fun b hb => by rw [List.mem_singleton.mp hb]; exact f1
    have raG := ra.ext gg (by simp) (by simp)
    obtain ⟨⟨dx, o, hh, bb, er, _⟩, _⟩ := id raG
    have hacc : acc.length ≤ 5 := by
      rw [aa.1, List.length_map, List.length_take]
      have : pth5.length = 5 := rfl
      omega
    refine ⟨rfl, _, rfl, r, dx, _, rfl, er, look_no (by decide +kernel), _, rfl, r, dg, y, ow, gs, ms, hs, bs, rfl, raG, gg.2, sml, pok hy, fun G2 l2 g2 e2 => ⟨l2, _, rfl, .inr (SqT.of e2), fun l3 hl3 => ?_⟩⟩
    have w3 : Go T G2 (upd G2 l3 (.lst ((own ow y).map V.str))) := go_upd g2.2 hl3
    have e3 : upd G2 l3 (.lst ((own ow y).map V.str)) l3 = some (.lst ((own ow y).map V.str)) := upd_same
    have ww := g2.trans w3
    have eD2 := g2.at eD
    have n3 : l3 ≠ D1 := (ne_of_none eD2 hl3).symm
    have eD3 := ww.at eD
    generalize upd G2 l3 (.lst ((own ow y).map V.str)) = G3 at w3 e3 ww eD3 ⊢
    have w4 : GoE T [D1] G3 (upd G3 D1 (.lst (acc ++ [.ref l3]))) := go_set ww.2 eD3 mu_lst (by simp)
    refine ⟨acc, eD3, by rw [sizeLine_eq]; omega, (g.trans (Go.any ww)).trans w4, _, upd_same, ?_⟩
    rw [take_snoc hy, List.map_append]
    exact (aa.imp fun _ _ h => (h.ext ww (by simp)).ext w4 (by simp)).snoc ⟨l3, rfl, w4.at e3 (by simpa using n3), by simpa using n3⟩
  obtain ⟨g, acc, eD, aa⟩ := h
  rw [List.length_map, List.take_length] at aa
  have aa := aa.imp fun _ _ h => h.l
  have gG : Go T H G := GoE.news w01 g fun b hb => by rw [List.mem_singleton.mp hb]; exact f1
  clear g w0 w1 w01 e1 hD1 n1 f1
  refine ⟨by show 5 ≤ sizeLine; decide, fun L2 hL2 => ⟨L2, rfl, ⟨_, SqL.of upd_same⟩, fun D2 hD2 => ?_⟩⟩
  have w0 : Go T G (upd G L2 (.lst [.str "a", .str "d/x", .str "d/y", .str "k.o", .str "e/f/g"])) := go_upd gG.2 hL2
  have e1 : upd G L2 (.lst [.str "a", .str "d/x", .str "d/y", .str "k.o", .str "e/f/g"]) L2 = some (.lst (pth5.map V.str)) := upd_same
  have g0 := gG.trans w0
  have eD0 := w0.at eD
  have aa0 := aa.imp fun _ _ h => h.go w0
  generalize upd G L2 (.lst [.str "a", .str "d/x", .str "d/y", .str "k.o", .str "e/f/g"]) = G0 at w0 e1 hD2 g0 eD0 aa0 ⊢
  have n1 : L2 ≠ D2 := ne_of_none e1 hD2
  have nDD : D1 ≠ D2 := ne_of_none eD0 hD2
  have w1 : Go T G0 (upd G0 D2 (.lst [])) := go_upd g0.2 hD2
  have f2 : Fresh G0 D2 := fresh_none hD2
  refine lc_list (xs := pth5.map V.str) (fun i G => GoE T [D2] (upd G0 D2 (.lst [])) G ∧ ∃ acc, G D2 = some (.lst acc) ∧ All2 (LstN [D2] G) acc ((pth5.take i).map (own ow))) ⟨GoE.refl w1.2, [], upd_same, All2.nil⟩ (fun i G _ h => h.1.seq (SqL.of (w1.at e1)) (by simpa using n1)) (fun i x G hix h => ?_) (fun G9 h => ?_)
  · obtain ⟨g, acc2, eD2, aa2⟩ := h
    obtain ⟨y, hy, rfl⟩ := str_at hix
    have gg0 : Go T G0 G := GoE.news w1 g fun b hb => by rw [List.mem_singleton.mp hb]; exact f2
    have gg := g0.trans gg0
    have hacc : acc2.length ≤ 5 := by
      rw [aa2.1, List.length_map, List.length_take]
      have : pth5.length = 5 := rfl
      omega
    refine ⟨rfl, _, rfl, _, rfl, rl, y, xs, ow, rfl, SqL.of (gg.at erl), al.imp fun _ _ h => h.go gg, sml, nms, pok hy, gg.2, fun G2 l2 g2 f2 e2 => ?_⟩
    have eD3 := g2.at eD2
    have n3 : l2 ≠ D2 := fun z => by
      obtain ⟨ps, e⟩ := f2 _ (by rw [z]; exact eD2)
      cases e
    have w4 : GoE T [D2] G2 (upd G2 D2 (.lst (acc2 ++ [.ref l2]))) := go_set g2.2 eD3 mu_lst (by simp)
    refine ⟨acc2, eD3, by rw [sizeLine_eq]; omega, (g.trans (Go.any g2)).trans w4, _, upd_same, ?_⟩
    rw [take_snoc hy, List.map_append]
    exact (aa2.imp fun _ _ h => (h.ext g2 (by simp)).ext w4 (by simp)).snoc ⟨l2, rfl, w4.at e2 (by simpa using n3), by simpa using n3⟩
  obtain ⟨g, acc2, eD2, aa2⟩ := h
  rw [List.length_map, List.take_length] at aa2
  have aa2 := aa2.imp fun _ _ h => h.l
  have gg0 : Go T G0 G9 := GoE.news w1 g fun b hb => by rw [List.mem_singleton.mp hb]; exact f2
  have g9 := g0.trans gg0
  have plo : Pl 2 (.list ((pth5.map (own ow)).map lstD)) = true := pl_lsts fun l hl => by
    obtain ⟨p, _, rfl⟩ := List.mem_map.mp hl
    exact own_ok nms p
  refine ⟨_, _, .lst (SqL.of (gg0.at eD0)) (dp_lsts (aa0.imp fun _ _ h => h.go gg0)), .lst (SqL.of eD2) (dp_lsts aa2), pl_shaped plo (by decide), pl_shaped plo (by decide), _, rfl, ?_⟩
  rw [show PyData.eqv (.list ((pth5.map (own ow)).map lstD)) (.list ((pth5.map (own ow)).map lstD)) = true from eqv_self plo]
  refine iteF' (by decide) ?_
  clear aa aa0 aa2 eD eD0 eD2 w0 w1 e1 f2 g gg0 gG n1 nDD
  have ra9 := ra.ext g9 (by simp) (by simp)
  obtain ⟨⟨dx, o, hh, bb, er, _⟩, _⟩ := id ra9
  refine ⟨_, rfl, r, dx, _, rfl, er, look_no (by decide +kernel), _, rfl, _, rfl, r, dg, a, b, FA, FB, ow, gs, ms, hs, bs, rfl, ra9, g9.at ea, g9.at eb, fa.ok, fb.ok, sml, nms, g9.2, fun G10 t zs g10 et alz => ⟨t, _, rfl, .inr (SqT.of et), fun l3 hl3 => ?_⟩⟩
  have w11 : Go T G10 (upd G10 l3 (.lst zs)) := go_upd g10.2 hl3
  have g11 := (g9.trans g10).trans w11
  have plr : Pl 3 (.list ((need ow FA FB).map rowQ)) = true := pl_rows fun q hq => ⟨(need_ok fa.ok fb.ok nms q hq).1, (need_ok fa.ok fb.ok nms q hq).2.1⟩
  refine ⟨_, rfl, _, _, .lst (SqL.of upd_same) (dp_own (alz.imp fun _ _ h => h.ext w11.t)), .lst (SqL.of (g11.at enl)) (dp_own (aln.imp fun _ _ h => h.ext g11.t)), pl_shaped plr (by decide), pl_shaped plr (by decide), _, rfl, ?_⟩
  rw [show PyData.eqv (.list ((need ow FA FB).map rowQ)) (.list ((need ow FA FB).map rowQ)) = true from eqv_self plr]
  exact iteF' (by decide) (k1 _ g11)
end
end R
end Text_R34
section Text_R35
set_option Elab.async false
set_option linter.all false
set_option maxRecDepth 100000
set_option maxHeartbeats 4000000
namespace R
open PySem PySem.Spec PyProof.Rows L2 Gx GxR LamY LamZ
section
variable {P : Program} {w : World} {K : PySem.W.Frag} {mg : Str → Option Value} {base : Heap} {T : Tb} {C CR CS : Addr} {M : MD} {N : LD}
variable {f : Addr} {cdv : Value} {A : Around} {outer : List Env} {s : Shared} {H0 : Hp} {E : XK}

/-- others = sorted(dict(..)) -/
theorem st11 (hr : Room 24 (A.deeper (envOfC "law" (defScope sLaw) s.heap.objs.size f cdv))) (m : Ms P w K mg base T C CR CS M) :
    ∃ t, PS (lawCx P w K mg base f cdv A outer s H0 E) (lawBody.getD 11 noS) t ∧ ∀ (D : Ends) (g : Addr) (ag : List Str) (who : Str) (v0 v1 v2 v3 v4 v5 v6 v7 v8 v9 v10 v11 v12 v13 v14 v15 v18 v19 v20 v22 v23 v24 v25 v26 v27 v28 v29 v30 : Option V) (u21 : Option V) (H : Hp), TOk T H → H g = some (.lst (ag.map V.str)) → ag.length ≤ 4 →
      (∀ (H' : Hp) (ol : Addr), Go T H H' → H' ol = some (.lst ((others ag who).map V.str)) → D.nx [v0, v1, v2, v3, v4, v5, v6, v7, v8, v9, v10, v11, v12, v13, v14, v15, some (.str who), some (.ref g), v18, v19, v20, some (.ref ol), v22, v23, v24, v25, v26, v27, v28, v29, v30] H') →
      t D [v0, v1, v2, v3, v4, v5, v6, v7, v8, v9, v10, v11, v12, v13, v14, v15, some (.str who), some (.ref g), v18, v19, v20, u21, v22, v23, v24, v25, v26, v27, v28, v29, v30] H := by
  refine ⟨_, ps_set (i := 21) scA.nd rfl (Or.inr rfl) (pe_callB (call_sortedD rfl) (by rfl) m.Y.sorted (by decide +kernel) (pa_cons (pe_callTy (call_dictP rfl) (by rfl) m.Y.dict (by decide +kernel) (pa_cons (pe_lc (own := [("name", 5)]) (g := gName 5) rfl scA.nd (pi_list (pv 17)) (blkOk_by (N := NA) (sc := defScope sLaw) (by decide +kernel)) (fun _ _ _ _ _ => pg_name (i := 5) scA.nd rfl (Or.inl rfl) (Or.inr rfl))
      (fun _ _ _ _ _ => pts_one (pt_cmpR op_ne (pv 5) (pv 16) (nomark _))) (fun _ _ _ _ _ => pe_tup (pa_cons (pv 5) (pa_cons pe_int pa_nil)))) pa_nil)) pa_nil)), fun D g ag who v0 v1 v2 v3 v4 v5 v6 v7 v8 v9 v10 v11 v12 v13 v14 v15 v18 v19 v20 v22 v23 v24 v25 v26 v27 v28 v29 v30 u21 H tk eg hl k1 => ?_⟩
  refine ⟨_, rfl, g, rfl, ⟨_, SqL.of eg⟩, fun D1 hD1 => ?_⟩
  have n1 : g ≠ D1 := ne_of_none eg hD1
  have w1 : Go T H (upd H D1 (.lst [])) := go_upd tk hD1
  have f1 : Fresh H D1 := fresh_none hD1
  refine lc_pairsP (T := T) (xs := ag) (fun x => !decide (x = who)) ov_l tk hD1 (fun G gg => gg.seq (SqL.of (w1.at eg)) (by simpa using n1)) (by omega) (fun y G k q => ⟨_, rfl, _, rfl, rfl, _, rfl, ?_⟩) (fun x G Q' k => ⟨_, rfl, by show 2 ≤ sizeLine; decide, k⟩) fun G ps gg eD al => ?_
  · have e : (!decide (V.str y = V.str who)) = !decide (y = who) := by
      congr 1
      rw [Bool.eq_iff_iff, decide_eq_true_iff, decide_eq_true_iff]
      exact ⟨fun z => V.str.inj z, fun z => by rw [z]⟩
    rw [e]
    exact q
  have g5 : Go T H G := GoE.news w1 gg fun b hb => by rw [List.mem_singleton.mp hb]; exact f1
  refine ⟨D1, ps, _, rfl, SqL.of eD, dict_paired al, fun d hd => ?_⟩
  rw [merge_keys]
  have g6 := g5.trans (go_upd (o := .dK (keyTab (.int 1) (uniq (ag.filter fun x => !decide (x = who))))) g5.2 hd)
  have h1 := uniq_len (ag.filter fun x => !decide (x = who))
  have h2 := List.length_filter_le (fun x => !decide (x = who)) ag
  refine ⟨d, _, uniq (ag.filter fun x => !decide (x = who)), rfl, Rd.of upd_same, keyTab_keys _ _, by omega, fun ys S pm sr hS => ?_⟩
  have ey : ys = others ag who := srt_eq pm sr
  subst ey
  exact k1 _ S (g6.trans (go_upd g6.2 hS)) upd_same
def brBody : List Stmt := forBody (lawBody.getD 12 noS)
def dueA (gs : Gs) (br : Str) (ot : List Str) : List Str := if 0 < shortOf gs br ot then [agreeT (shortOf gs br ot)] else []
/-- due = ["agree " + ..] * .. -/
theorem st120 (hr : Room 24 (A.deeper (envOfC "law" (defScope sLaw) s.heap.objs.size f cdv))) (m : Ms P w K mg base T C CR CS M) :
    ∃ t, PS (lawCx P w K mg base f cdv A outer s H0 E) (brBody.getD 0 noS) t ∧ ∀ (D : Ends) (gd ol : Addr) (gs2 : Gs) (br : Str) (ot : List Str) (v0 v1 v2 v4 v5 v6 v7 v8 v9 v10 v11 v12 v13 v14 v15 v16 v17 v18 v19 v20 v24 v25 v26 v27 v28 v29 v30 : Option V) (u23 : Option V) (H : Hp), TOk T H → H gd = some (.dK (gk gs2)) → H ol = some (.lst (ot.map V.str)) → ot.length ≤ 4 → (∀ q ∈ gs2, 0 ≤ q.2 ∧ q.2 ≤ 3) →
      (∀ (H' : Hp) (dl : Addr), Go T H H' → H' dl = some (.lst ((dueA gs2 br ot).map V.str)) → D.nx [v0, v1, v2, some (.ref gd), v4, v5, v6, v7, v8, v9, v10, v11, v12, v13, v14, v15, v16, v17, v18, v19, v20, some (.ref ol), some (.str br), some (.ref dl), v24, v25, v26, v27, v28, v29, v30] H') →
      t D [v0, v1, v2, some (.ref gd), v4, v5, v6, v7, v8, v9, v10, v11, v12, v13, v14, v15, v16, v17, v18, v19, v20, some (.ref ol), some (.str br), u23, v24, v25, v26, v27, v28, v29, v30] H := by
  have hu := hu_of hr
  refine ⟨_, ps_set (i := 23) scA.nd rfl (Or.inl rfl) (pe_op op_rep (pe_lst (pa_cons (pe_op op_add_str pe_str (pe_callTy call_str_int (by rfl) m.Y.str (by decide +kernel) (pa_cons (pe_op op_sub (pe_dget2 hu (pv 3) (pv 22) pe_int ⟨rfl, rfl, rfl, rfl⟩) (pe_callB call_len_seq (by rfl) m.Y.len PySem.boot_len (pa_cons (pv 21) pa_nil))) pa_nil))) pa_nil))
      (pe_callTy call_int1 (by rfl) m.Y.int (by decide +kernel) (pa_cons (pe_cmpR op_gt (pe_dget2 hu (pv 3) (pv 22) pe_int ⟨rfl, rfl, rfl, rfl⟩) (pe_callB call_len_seq (by rfl) m.Y.len PySem.boot_len (pa_cons (pv 21) pa_nil)) (nomark _)) pa_nil))), fun D gd ol gs2 br ot v0 v1 v2 v4 v5 v6 v7 v8 v9 v10 v11 v12 v13 v14 v15 v16 v17 v18 v19 v20 v24 v25 v26 v27 v28 v29 v30 u23 H tk eg eo hot hgs k1 => ?_⟩
  have eD : ((gl gs2 br).map V.int).getD (.int 0) = V.int ((gl gs2 br).getD 0) := by cases gl gs2 br <;> rfl
  have hgl : 0 ≤ (gl gs2 br).getD 0 ∧ (gl gs2 br).getD 0 ≤ 3 := by
    unfold gl
    cases hf : gs2.find? fun q => decide (q.1 = br) with
    | none => exact ⟨by decide, by decide⟩
    | some q => exact hgs q (List.mem_of_find?_eq_some hf)
  have sh : (gl gs2 br).getD 0 - ((ot.length : Nat) : Int) = shortOf gs2 br ot := rfl
  have sb : shortOf gs2 br ot ≤ 3 ∧ -4 ≤ shortOf gs2 br ot := by
    unfold shortOf
    omega
  have txt : (Str.ofString (toString (shortOf gs2 br ot))).length ≤ 3 ∧ (shortOf gs2 br ot).natAbs.log2 < 1920 := by
    have : shortOf gs2 br ot = -4 ∨ shortOf gs2 br ot = -3 ∨ shortOf gs2 br ot = -2 ∨ shortOf gs2 br ot = -1 ∨ shortOf gs2 br ot = 0 ∨ shortOf gs2 br ot = 1 ∨ shortOf gs2 br ot = 2 ∨ shortOf gs2 br ot = 3 := by omega
    rcases this with e | e | e | e | e | e | e | e <;> rw [e] <;> decide +kernel
  refine ⟨_, rfl, gd, rfl, .inl ⟨_, Rd.of eg⟩, _, rfl, _, DGet.k (k := Sum.inr br) eg, _, rfl, ol, _, rfl, .inl (SqL.of eo), ?_⟩
  rw [valV_gk, eD, List.length_map]
  refine ⟨_, _, rfl, rfl, _, rfl, ?_, ?_⟩
  · rw [sh]; exact txt.2
  rw [sh]
  refine ⟨_, _, rfl, rfl, ?_, by show 1 ≤ sizeLine; decide, fun L1 hL1 => ?_⟩
  · rw [sizeLine_eq]
    have : ("agree " : Str).length = 6 := by decide
    omega
  have w1 : Go T H (upd H L1 (.lst [.str (agreeT (shortOf gs2 br ot))])) := go_upd tk hL1
  have eL : upd H L1 (.lst [.str (agreeT (shortOf gs2 br ot))]) L1 = some (.lst [.str (agreeT (shortOf gs2 br ot))]) := upd_same
  refine ⟨_, rfl, gd, rfl, .inl ⟨_, Rd.of (w1.at eg)⟩, _, rfl, _, DGet.k (k := Sum.inr br) (w1.at eg), _, rfl, ol, _, rfl, .inl (SqL.of (w1.at eo)), ?_⟩
  rw [valV_gk, eD, List.length_map]
  refine ⟨_, _, rfl, rfl, .inr ⟨_, rfl, L1, _, _, rfl, rfl, eL, ?_, ?_, ?_, fun p hp => ?_⟩⟩
  · split <;> decide
  · split <;> decide
  · rw [sizeLine_eq]
    show 1 * _ ≤ _
    split <;> decide
  have w2 : Go T (upd H L1 (.lst [.str (agreeT (shortOf gs2 br ot))])) (upd (upd H L1 (.lst [.str (agreeT (shortOf gs2 br ot))])) p (.lst ((dueA gs2 br ot).map V.str))) := go_upd w1.2 hp
  have e8 : (List.replicate (if decide (((ot.length : Nat) : Int) < (gl gs2 br).getD 0) = true then (1 : Int) else 0).toNat [V.str (agreeT (shortOf gs2 br ot))]).flatten = (dueA gs2 br ot).map V.str := by
    unfold dueA
    by_cases z : ((ot.length : Nat) : Int) < (gl gs2 br).getD 0
    · rw [if_pos (decide_eq_true z), if_pos (by unfold shortOf; omega)]
      rfl
    · rw [if_neg (by rw [decide_eq_false z]; decide), if_neg (by unfold shortOf; omega)]
      rfl
  rw [e8]
  exact k1 _ p (w1.trans w2) upd_same
end
end R
end Text_R35
section Text_R36
set_option Elab.async false
set_option linter.all false
set_option maxRecDepth 100000
set_option maxHeartbeats 4000000
namespace R
open PySem PySem.Spec PyProof.Rows L2 Gx GxR LamY LamZ

theorem ok_app {a b : Str} (ha : okS a) (hb : okS b) : okS (a ++ b) := by
  unfold okS PyData.strOk at *
  show ((a.cps ++ b.cps).all _) = true
  rw [Array.all_append, ha, hb]
  rfl
theorem ok_ownT {p : Str} (h : okS p) : okS (ownT p) := ok_app (by unfold okS; decide +kernel) h
theorem ok_agree {n : Int} (h0 : 0 < n) (h : n ≤ 10) : okS (agreeT n) := ok_app (by unfold okS; decide +kernel) (small_int h0 h).2.1
def ownBody : List Stmt := forBody (brBody.getD 1 noS)
def hits (who : Str) (ot : List Str) (n : Str) : Bool := decide (n = who) || decide (n ∈ ot)
theorem lack_hits (who : Str) (ot : List Str) (r : Str × List Str) : lackOf who ot r = if r.2.filter (hits who ot) = [] then some (ownT r.1) else none := by
  unfold lackOf
  by_cases z : r.2.filter (hits who ot) = []
  · rw [if_pos z]
    rw [List.filter_eq_nil_iff] at z
    rw [if_neg]
    rintro (h | h)
    · have := z who h
      exact this (by unfold hits; simp)
    · obtain ⟨o, ho, h⟩ := List.any_eq_true.mp h
      have := z o ho
      exact this (by unfold hits; rw [h]; simp)
  · rw [if_neg z, if_pos]
    refine Classical.byContradiction fun y => z (List.filter_eq_nil_iff.mpr fun n hn h => y ?_)
    unfold hits at h
    rcases Bool.or_eq_true_iff.mp h with h | h
    · exact .inl (by rw [← of_decide_eq_true h]; exact hn)
    · exact .inr (List.any_eq_true.mpr ⟨n, hn, h⟩)
section
variable {P : Program} {w : World} {K : PySem.W.Frag} {mg : Str → Option Value} {base : Heap} {T : Tb} {C CR CS : Addr} {M : MD} {N : LD}
variable {f : Addr} {cdv : Value} {A : Around} {outer : List Env} {s : Shared} {H0 : Hp} {E : XK}

/-- due = due + ["own " + path] * .. -/
theorem st1210 (hr : Room 24 (A.deeper (envOfC "law" (defScope sLaw) s.heap.objs.size f cdv))) (m : Ms P w K mg base T C CR CS M) :
    ∃ t, PS (lawCx P w K mg base f cdv A outer s H0 E) (ownBody.getD 0 noS) t ∧ ∀ (D : Ends) (dl ol u : Addr) (who p : Str) (ot ns ds : List Str) (v0 v1 v2 v3 v4 v5 v6 v7 v8 v9 v10 v11 v12 v13 v15 v17 v18 v20 v22 v24 v25 v26 v27 v28 v29 v30 : Option V) (H : Hp), TOk T H → H u = some (.tup (ns.map V.str)) → H ol = some (.lst (ot.map V.str)) → H dl = some (.lst (ds.map V.str)) → ns.length ≤ 30 → (∀ n ∈ ns, okS n) → p.length ≤ 1000 → ds.length ≤ 100 →
      (∀ (H' : Hp) (d2 : Addr), Go T H H' → H' d2 = some (.lst ((ds ++ (if ns.filter (hits who ot) = [] then [ownT p] else [])).map V.str)) → D.nx [v0, v1, v2, v3, v4, v5, v6, v7, v8, v9, v10, v11, v12, v13, some (.ref u), v15, some (.str who), v17, v18, some (.str p), v20, some (.ref ol), v22, some (.ref d2), v24, v25, v26, v27, v28, v29, v30] H') →
      t D [v0, v1, v2, v3, v4, v5, v6, v7, v8, v9, v10, v11, v12, v13, some (.ref u), v15, some (.str who), v17, v18, some (.str p), v20, some (.ref ol), v22, some (.ref dl), v24, v25, v26, v27, v28, v29, v30] H := by
  refine ⟨_, ps_set (i := 23) scA.nd rfl (Or.inl rfl) (pe_op op_cat (pv 23) (pe_op op_rep (pe_lst (pa_cons (pe_op op_add_str pe_str (pv 19)) pa_nil)) (pe_callTy call_int1 (by rfl) m.Y.int (by decide +kernel) (pa_cons (pe_cmpR (op_eqD hr.units)
      (pe_lc (own := [("name", 5)]) (g := gName 5) rfl scA.nd (pi_tup (pv 14)) (blkOk_by (N := NA) (sc := defScope sLaw) (by decide +kernel)) (fun _ _ _ _ _ => pg_name (i := 5) scA.nd rfl (Or.inl rfl) (Or.inr rfl))
        (fun _ _ _ _ _ => pts_one (PW.pt (pw_or (pt_cmpR op_eq (pv 5) (pv 16) (nomark _)) (pw_or1 (pt_cmpR (op_in_seqK K rfl) (pv 5) (pv 21) (by rfl)))))) (fun _ _ _ _ _ => pv 5)) (pe_lst pa_nil) (nomark _)) pa_nil)))), fun D dl ol u who p ot ns ds v0 v1 v2 v3 v4 v5 v6 v7 v8 v9 v10 v11 v12 v13 v15 v17 v18 v20 v22 v24 v25 v26 v27 v28 v29 v30 H tk eu eo ed hn hok hp hds k1 => ?_⟩
  refine ⟨_, rfl, _, rfl, _, _, rfl, rfl, ?_, by show 1 ≤ sizeLine; decide, fun L1 hL1 => ?_⟩
  · rw [sizeLine_eq]
    have : ("own " : Str).length = 4 := by decide
    omega
  have w1 : Go T H (upd H L1 (.lst [.str (("own " : Str) ++ p)])) := go_upd tk hL1
  have eL : upd H L1 (.lst [.str (("own " : Str) ++ p)]) L1 = some (.lst [.str (ownT p)]) := upd_same
  have eu1 := w1.t _ _ eu
  have eo1 := w1.at eo
  have ed1 := w1.at ed
  generalize upd H L1 (.lst [.str (("own " : Str) ++ p)]) = H1 at w1 eL eu1 eo1 ed1 ⊢
  refine ⟨_, rfl, u, rfl, ⟨_, SqT.of eu1⟩, fun D1 hD1 => ?_⟩
  have nL : L1 ≠ D1 := ne_of_none eL hD1
  have no : ol ≠ D1 := ne_of_none eo1 hD1
  have w2 : Go T H1 (upd H1 D1 (.lst [])) := go_upd w1.2 hD1
  have f2 : Fresh H1 D1 := fresh_none hD1
  refine lc_tup (xs := ns.map V.str) (fun i G => GoE T [D1] (upd H1 D1 (.lst [])) G ∧ G D1 = some (.lst (((ns.take i).filter (hits who ot)).map V.str))) ⟨GoE.refl w2.2, upd_same⟩ (fun i G _ h => SqT.of (h.1.t _ _ (w2.t _ _ eu1))) (fun i x G hix h => ?_) (fun G h => ?_)
  · obtain ⟨g, eD⟩ := h
    obtain ⟨y, hy, rfl⟩ := str_at hix
    have eoG := g.at (w2.at eo1) (by simpa using no)
    have dS : decide (V.str y = V.str who) = decide (y = who) := by
      rw [Bool.eq_iff_iff, decide_eq_true_iff, decide_eq_true_iff]
      exact ⟨fun e => V.str.inj e, fun e => by rw [e]⟩
    have hfl : ((ns.take i).filter (hits who ot)).length ≤ 30 := by
      have h1 := List.length_filter_le (hits who ot) (ns.take i)
      rw [List.length_take] at h1
      omega
    have yes : hits who ot y = true → ∃ acc, G D1 = some (.lst acc) ∧ acc.length < sizeLine ∧ (GoE T [D1] (upd H1 D1 (.lst [])) (upd G D1 (.lst (acc ++ [.str y]))) ∧ upd G D1 (.lst (acc ++ [.str y])) D1 = some (.lst (((ns.take (i + 1)).filter (hits who ot)).map V.str))) := fun z => by
      refine ⟨_, eD, by rw [List.length_map, sizeLine_eq]; omega, g.trans (go_set g.2 eD mu_lst (by simp)), ?_⟩
      rw [upd_same, filter_snoc hy, if_pos z, List.map_append]
      rfl
    refine ⟨rfl, _, rfl, _, rfl, rfl, _, rfl, ?_⟩
    rw [dS]
    by_cases hw : y = who
    · rw [decide_eq_true hw]
      refine (if_pos rfl).mpr ⟨_, rfl, yes ?_⟩
      unfold hits
      rw [decide_eq_true hw]
      rfl
    · rw [decide_eq_false hw]
      refine (if_neg Bool.false_ne_true).mpr ⟨_, rfl, _, rfl, ol, _, rfl, .inl (SqL.of eoG), rfl, flat_strs _, _, rfl, ?_⟩
      rw [if_neg Bool.false_ne_true, inV_str]
      by_cases hm : y ∈ ot
      · rw [decide_eq_true hm]
        refine (if_pos rfl).mpr ⟨_, rfl, yes ?_⟩
        unfold hits
        rw [decide_eq_true hm]
        simp
      · rw [decide_eq_false hm]
        refine (if_neg Bool.false_ne_true).mpr ⟨g, ?_⟩
        rw [filter_snoc hy, if_neg (by unfold hits; rw [decide_eq_false hw, decide_eq_false hm]; decide), List.append_nil]
        exact eD
  obtain ⟨g, eD⟩ := h
  rw [List.length_map, List.take_length] at eD
  have g12 : Go T H1 G := GoE.news w2 g fun b hb => by rw [List.mem_singleton.mp hb]; exact f2
  have gG := w1.trans g12
  have eLG := g12.at eL
  have edG := g12.at ed1
  refine ⟨by decide, fun L3 hL3 => ?_⟩
  have w3 : Go T G (upd G L3 (.lst [])) := go_upd gG.2 hL3
  have p1 : Pl 1 (.list ((ns.filter (hits who ot)).map PyData.str)) = true := pl_strs (fun x hx => hok x (List.mem_filter.mp hx).1)
  refine ⟨_, _, .lst (SqL.of (w3.at eD)) (dp_strs _), .lst (SqL.of upd_same) .nil, pl_shaped p1 (by decide), by decide, ?_⟩
  have ev : PyData.eqv (.list ((ns.filter (hits who ot)).map PyData.str)) (.list []) = decide (ns.filter (hits who ot) = []) := by
    rw [Bool.eq_iff_iff, decide_eq_true_iff, pl_eqv 1 _ _ p1 rfl, PyData.list.injEq, List.map_eq_nil_iff]
  rw [ev]
  refine .inr ⟨_, rfl, L1, _, _, rfl, rfl, w3.at eLG, ?_, ?_, ?_, fun q hq => ?_⟩
  · split <;> decide
  · split <;> decide
  · rw [sizeLine_eq]
    show 1 * _ ≤ _
    split <;> decide
  have e8 : (List.replicate (if decide (ns.filter (hits who ot) = []) = true then (1 : Int) else 0).toNat [V.str (ownT p)]).flatten = ((if ns.filter (hits who ot) = [] then [ownT p] else []) : List Str).map V.str := by
    by_cases z : ns.filter (hits who ot) = []
    · rw [if_pos (decide_eq_true z), if_pos z]
      rfl
    · rw [if_neg (by rw [decide_eq_false z]; decide), if_neg z]
      rfl
  rw [e8]
  have w4 : Go T (upd G L3 (.lst [])) (upd (upd G L3 (.lst [])) q (.lst (((if ns.filter (hits who ot) = [] then [ownT p] else []) : List Str).map V.str))) := go_upd w3.2 hq
  have eq4 : upd (upd G L3 (.lst [])) q (.lst (((if ns.filter (hits who ot) = [] then [ownT p] else []) : List Str).map V.str)) q = some (.lst (((if ns.filter (hits who ot) = [] then [ownT p] else []) : List Str).map V.str)) := upd_same
  refine ⟨dl, q, _, _, rfl, rfl, (w3.trans w4).at edG, eq4, ?_, fun z hz => ?_⟩
  · rw [List.length_map, List.length_map, sizeLine_eq]
    have : ((if ns.filter (hits who ot) = [] then [ownT p] else []) : List Str).length ≤ 1 := by split <;> simp
    omega
  · rw [← List.map_append]
    exact k1 _ z (((gG.trans w3).trans w4).trans (go_upd w4.2 hz)) upd_same
/-- for path, names in need if branch in guarded else []: .. -/
theorem st121 (hr : Room 24 (A.deeper (envOfC "law" (defScope sLaw) s.heap.objs.size f cdv))) (m : Ms P w K mg base T C CR CS M) :
    ∃ t, PS (lawCx P w K mg base f cdv A outer s H0 E) (brBody.getD 1 noS) t ∧ ∀ (D : Ends) (gd dl ol nl : Addr) (gs2 : Gs) (br who : Str) (ot ds : List Str) (nd : Owns) (ys : List V) (v0 v1 v2 v4 v5 v6 v7 v8 v9 v10 v11 v12 v13 v15 v17 v18 v24 v25 v26 v27 v28 v29 v30 : Option V) (u19 u14 : Option V) (H : Hp), TOk T H → H gd = some (.dK (gk gs2)) → H ol = some (.lst (ot.map V.str)) → H dl = some (.lst (ds.map V.str)) → ds.length ≤ 1 → H nl = some (.lst ys) → All2 (OwRow H) ys nd → nd.length ≤ 20 → (∀ q ∈ nd, q.2.length ≤ 30 ∧ (∀ n ∈ q.2, okS n) ∧ q.1.length ≤ 1000) →
      (∀ (H' : Hp) (d2 : Addr) (w19 w14 : Option V), Go T H H' → H' d2 = some (.lst ((ds ++ (if (gl gs2 br).isSome = true then nd.filterMap (lackOf who ot) else [])).map V.str)) → D.nx [v0, v1, v2, some (.ref gd), v4, v5, v6, v7, v8, v9, v10, v11, v12, v13, w14, v15, some (.str who), v17, v18, w19, some (.ref nl), some (.ref ol), some (.str br), some (.ref d2), v24, v25, v26, v27, v28, v29, v30] H') →
      t D [v0, v1, v2, some (.ref gd), v4, v5, v6, v7, v8, v9, v10, v11, v12, v13, u14, v15, some (.str who), v17, v18, u19, some (.ref nl), some (.ref ol), some (.str br), some (.ref dl), v24, v25, v26, v27, v28, v29, v30] H := by
  have hu := hu_of hr
  obtain ⟨t0, p0, q0⟩ := st1210 (H0 := H0) (E := E) (outer := outer) (s := s) (f := f) (A := A) hr m
  refine ⟨_, ps_for PassesOwn.never rfl (pi_list (pe_ifExp (pt_cmp (pc_din hu (pv 22) (pv 3))) (pv 20) (pe_lst pa_nil))) (pg_tup rfl (pgs_cons (pg_name (i := 19) scA.nd rfl (Or.inr rfl)) (pgs_cons (pg_name (i := 14) scA.nd rfl (Or.inl rfl)) pgs_nil))) (pss_one p0), fun D gd dl ol nl gs2 br who ot ds nd ys v0 v1 v2 v4 v5 v6 v7 v8 v9 v10 v11 v12 v13 v15 v17 v18 v24 v25 v26 v27 v28 v29 v30 u19 u14 H tk eg eo ed hds en al hnd hok k1 => ?_⟩
  refine ⟨_, rfl, _, rfl, gd, _, rfl, DGet.k (k := Sum.inr br) eg, _, rfl, ?_⟩
  rw [valV_gk, Option.isSome_map]
  cases hg : (gl gs2 br).isSome with
  | false =>
    rw [hg, if_neg Bool.false_ne_true, List.append_nil] at k1
    refine (if_neg Bool.false_ne_true).mpr ⟨by decide, fun e0 he0 => ?_⟩
    have w1 : Go T H (upd H e0 (.lst [])) := go_upd tk he0
    refine ⟨e0, rfl, ⟨_, SqL.of upd_same⟩, for_list (xs := []) (fun i σ G => Go T H G ∧ G e0 = some (.lst []) ∧ G dl = some (.lst (ds.map V.str)) ∧ σ = [v0, v1, v2, some (.ref gd), v4, v5, v6, v7, v8, v9, v10, v11, v12, v13, u14, v15, some (.str who), v17, v18, u19, some (.ref nl), some (.ref ol), some (.str br), some (.ref dl), v24, v25, v26, v27, v28, v29, v30]) ⟨w1, upd_same, w1.at ed, rfl⟩ (fun i σ G _ h => SqL.of h.2.1) (fun i x σ G hix h => by cases hix) (fun σ G h => ?_)⟩
    obtain ⟨g, _, e2, rfl⟩ := h
    exact k1 G dl u19 u14 g e2
  | true =>
    rw [hg, if_pos rfl] at k1
    refine (if_pos rfl).mpr ⟨_, rfl, nl, rfl, ⟨_, SqL.of en⟩, for_list (xs := ys) (fun i σ G => Go T H G ∧ (∃ (d2 : Addr) (w19 w14 : Option V), σ = [v0, v1, v2, some (.ref gd), v4, v5, v6, v7, v8, v9, v10, v11, v12, v13, w14, v15, some (.str who), v17, v18, w19, some (.ref nl), some (.ref ol), some (.str br), some (.ref d2), v24, v25, v26, v27, v28, v29, v30] ∧ G d2 = some (.lst ((ds ++ (nd.take i).filterMap (lackOf who ot)).map V.str)))) ⟨GoE.refl tk, dl, u19, u14, rfl, by rw [List.take_zero]; simpa using ed⟩ (fun i σ G _ h => SqL.of (h.1.at en)) (fun i x σ G hix h => ?_) (fun σ G h => ?_)⟩
    · obtain ⟨g, d2, w19, w14, rfl, e2⟩ := h
      obtain ⟨q, hq, t, u, rfl, et, eu⟩ := al.at hix
      obtain ⟨hq1, hq2, hq3⟩ := hok q (List.mem_of_getElem? hq)
      have et := g.t _ _ et
      have eu := g.t _ _ eu
      have hlen : (ds ++ (nd.take i).filterMap (lackOf who ot)).length ≤ 100 := by
        rw [List.length_append]
        have h1 := List.length_filterMap_le (lackOf who ot) (nd.take i)
        rw [List.length_take] at h1
        omega
      refine ⟨t, _, rfl, SqT.of et, rfl, _, _, rfl, _, _, rfl, rfl, ?_⟩
      refine q0 _ d2 ol u who q.1 ot q.2 _ _ _ _ _ _ _ _ _ _ _ _ _ _ _ _ _ _ _ _ _ _ _ _ _ _ _ _ g.2 eu (g.at eo) e2 hq1 hq2 hq3 hlen fun G2 d3 g2 e3 => ⟨g.trans g2, d3, _, _, rfl, ?_⟩
      rw [e3, take_snoc hq, List.filterMap_append, List.append_assoc]
      have e9 : [q].filterMap (lackOf who ot) = if q.2.filter (hits who ot) = [] then [ownT q.1] else [] := by
        have hw := lack_hits who ot q
        by_cases z : q.2.filter (hits who ot) = []
        · rw [if_pos z] at hw ⊢
          simp [hw]
        · rw [if_neg z] at hw ⊢
          simp [hw]
      rw [e9]
    · obtain ⟨g, d2, w19, w14, rfl, e2⟩ := h
      rw [List.take_of_length_le (Nat.le_of_eq al.1.symm)] at e2
      exact k1 G d2 w19 w14 g e2
end
end R
end Text_R36
section Text_R37
set_option Elab.async false
set_option linter.all false
set_option maxRecDepth 100000
set_option maxHeartbeats 4000000
namespace R
open PySem PySem.Spec PyProof.Rows L2 Gx GxR LamY LamZ

theorem lacks_ok {gs : Gs} {br who : Str} {ot : List Str} {nd : Owns} (hot : ot.length ≤ 4) (hgs : ∀ q ∈ gs, 0 ≤ q.2 ∧ q.2 ≤ 3) (hnd : ∀ q ∈ nd, okS q.1) : ∀ x ∈ lacks gs br who ot nd, okS x := fun x hx => by
  unfold lacks at hx
  have hgl : (gl gs br).getD 0 ≤ 3 := by
    unfold gl
    cases hf : gs.find? fun q => decide (q.1 = br) with
    | none => decide
    | some q => exact (hgs q (List.mem_of_find?_eq_some hf)).2
  rcases List.mem_append.mp hx with h | h
  · split at h
    · rename_i z
      rw [List.mem_singleton.mp h]
      refine ok_agree z ?_
      unfold shortOf
      omega
    · simp at h
  · split at h
    · obtain ⟨q, hq, e⟩ := List.mem_filterMap.mp h
      unfold lackOf at e
      split at e
      · cases e
      · cases e
        exact ok_ownT (hnd q hq)
    · simp at h
def wd3 : List Str := ["fix it", "add", "other"]
theorem wd3_at {i : Int} (h0 : 0 ≤ i) (h1 : i < 3) : ∃ p, p ∈ wd3 ∧ atI (wd3.map V.str) i = some (.str p) := by
  have hl : i.toNat < wd3.length := by show i.toNat < 3; omega
  refine ⟨_, List.getElem_mem hl, ?_⟩
  unfold atI ixN
  rw [if_pos h0, if_pos (by show i < 3; omega)]
  show (wd3.map V.str)[i.toNat]? = _
  rw [List.getElem?_map, List.getElem?_eq_getElem hl]
  rfl
section
variable {P : Program} {w : World} {K : PySem.W.Frag} {mg : Str → Option Value} {base : Heap} {T : Tb} {C CR CS : Addr} {M : MD} {N : LD}
variable {f : Addr} {cdv : Value} {A : Around} {outer : List Env} {s : Shared} {H0 : Hp} {E : XK}

/-- if list(rules.lacks(..)) != due: .. -/
theorem st122 (hr : Room 24 (A.deeper (envOfC "law" (defScope sLaw) s.heap.objs.size f cdv))) (m : Ms P w K mg base T C CR CS M) :
    ∃ t, PS (lawCx P w K mg base f cdv A outer s H0 E) (brBody.getD 2 noS) t ∧ ∀ (D : Ends) (r dg a b g dl : Addr) (ow : Owns) (gs : Gs) (ms : Int) (hs bs ag : List Str) (FA FB : Files) (br who : Str) (v0 v1 v2 v3 v4 v5 v6 v7 v8 v10 v11 v12 v13 v14 v18 v19 v20 v21 v24 v25 v26 v27 v28 v29 : Option V) (H : Hp), TOk T H → RAt C H r dg ow gs ms hs bs → ow.length ≤ 4 → OwOk ow → (∀ q ∈ gs, 0 ≤ q.2 ∧ q.2 ≤ 3) → H a = some (.dK (fk FA)) → H b = some (.dK (fk FB)) → FOk FA → FOk FB → H g = some (.lst (ag.map V.str)) → ag.length ≤ 4 →
      H dl = some (.lst ((lacks gs br who (others ag who) (need ow FA FB)).map V.str)) →
      (∀ H', Go T H H' → D.nx [v0, v1, v2, v3, v4, v5, v6, v7, v8, some (.ref a), v10, v11, v12, v13, v14, some (.ref b), some (.str who), some (.ref g), v18, v19, v20, v21, some (.str br), some (.ref dl), v24, v25, v26, v27, v28, v29, some (.ref r)] H') →
      t D [v0, v1, v2, v3, v4, v5, v6, v7, v8, some (.ref a), v10, v11, v12, v13, v14, some (.ref b), some (.str who), some (.ref g), v18, v19, v20, v21, some (.str br), some (.ref dl), v24, v25, v26, v27, v28, v29, some (.ref r)] H := by
  refine ⟨_, ps_if (pt_cmpR (op_neD hr.units) (pe_callTy call_list_of (by rfl) m.Y.list (by decide +kernel) (pa_cons (pe_meth (pv 30) m.L.cl m.mS m.GS (hr.mono (by decide)) m.bS .nil pass0 (pa_cons (pv 22) (pa_cons (pv 9) (pa_cons (pv 15) (pa_cons (pv 16) (pa_cons (pv 17) pa_nil)))))) pa_nil)) (pv 23) (nomark _)) (pss_one (ps_ret pe_bl)) pss_nil,
    fun D r dg a b g dl ow gs ms hs bs ag FA FB br who v0 v1 v2 v3 v4 v5 v6 v7 v8 v10 v11 v12 v13 v14 v18 v19 v20 v21 v24 v25 v26 v27 v28 v29 H tk ra hl ok hgs ea eb fa fb eg hag ed k1 => ?_⟩
  obtain ⟨⟨dx, o, hh, bb, er, _⟩, _⟩ := id ra
  have nms := ok.names
  have hot : (others ag who).length ≤ 4 := by
    have h1 := so_len (ag.filter fun x => !decide (x = who))
    have h2 := List.length_filter_le (fun x => !decide (x = who)) ag
    unfold others
    omega
  refine ⟨_, rfl, r, dx, _, rfl, er, look_no (by decide +kernel), _, rfl, _, rfl, _, rfl, _, rfl, _, rfl, r, dg, a, b, g, FA, FB, ow, gs, ms, hs, bs, br, who, ag, rfl, ra, ea, eb, fa.ok, fb.ok, ok.small hl, nms, tk, SqL.of eg, by omega, fun q hq => ⟨(hgs q hq).1, by have := (hgs q hq).2; omega⟩, fun G1 l1 g1 e1 => ⟨l1, _, rfl, .inr (SqT.of e1), fun l2 hl2 => ?_⟩⟩
  have w2 : Go T G1 (upd G1 l2 (.lst ((lacks gs br who (others ag who) (need ow FA FB)).map V.str))) := go_upd g1.2 hl2
  have p1 : Pl 1 (.list ((lacks gs br who (others ag who) (need ow FA FB)).map PyData.str)) = true := pl_strs (lacks_ok hot hgs fun q hq => (need_ok fa.ok fb.ok nms q hq).1)
  refine ⟨_, rfl, _, _, .lst (SqL.of upd_same) (dp_strs _), .lst (SqL.of ((g1.trans w2).at ed)) (dp_strs _), pl_shaped p1 (by decide), pl_shaped p1 (by decide), _, rfl, ?_⟩
  rw [show PyData.eqv (.list ((lacks gs br who (others ag who) (need ow FA FB)).map PyData.str)) (.list ((lacks gs br who (others ag who) (need ow FA FB)).map PyData.str)) = true from eqv_self p1]
  exact iteF' (by decide) (k1 _ (g1.trans w2))
/-- for branch in ["main", "side"]: .. -/
theorem st12 (hr : Room 24 (A.deeper (envOfC "law" (defScope sLaw) s.heap.objs.size f cdv))) (m : Ms P w K mg base T C CR CS M) :
    ∃ t, PS (lawCx P w K mg base f cdv A outer s H0 E) (lawBody.getD 12 noS) t ∧ ∀ (D : Ends) (r dg gd a b g nl ol : Addr) (ow : Owns) (gs gs2 : Gs) (ms : Int) (hs bs ag : List Str) (FA FB : Files) (who : Str) (ys : List V) (v0 v1 v2 v4 v5 v6 v7 v8 v10 v11 v12 v13 v18 v24 v25 v26 v27 v28 v29 : Option V) (u19 u14 u22 u23 : Option V) (H : Hp), TOk T H → RAt C H r dg ow gs ms hs bs → H gd = some (.dK (gk gs2)) → GInv gs gs2 → ow.length ≤ 4 → OwOk ow →
      H a = some (.dK (fk FA)) → H b = some (.dK (fk FB)) → FOk FA → FOk FB → H g = some (.lst (ag.map V.str)) → ag.length ≤ 4 → H nl = some (.lst ys) → All2 (OwRow H) ys (need ow FA FB) → H ol = some (.lst ((others ag who).map V.str)) →
      (∀ (H' : Hp) (w19 w14 w22 w23 : Option V), Go T H H' → D.nx [v0, v1, v2, some (.ref gd), v4, v5, v6, v7, v8, some (.ref a), v10, v11, v12, v13, w14, some (.ref b), some (.str who), some (.ref g), v18, w19, some (.ref nl), some (.ref ol), w22, w23, v24, v25, v26, v27, v28, v29, some (.ref r)] H') →
      t D [v0, v1, v2, some (.ref gd), v4, v5, v6, v7, v8, some (.ref a), v10, v11, v12, v13, u14, some (.ref b), some (.str who), some (.ref g), v18, u19, some (.ref nl), some (.ref ol), u22, u23, v24, v25, v26, v27, v28, v29, some (.ref r)] H := by
  obtain ⟨t0, p0, q0⟩ := st120 (H0 := H0) (E := E) (outer := outer) (s := s) (f := f) (A := A) hr m
  obtain ⟨t1, p1, q1⟩ := st121 (H0 := H0) (E := E) (outer := outer) (s := s) (f := f) (A := A) hr m
  obtain ⟨t2, p2, q2⟩ := st122 (H0 := H0) (E := E) (outer := outer) (s := s) (f := f) (A := A) hr m
  refine ⟨_, ps_for PassesOwn.never rfl (pi_list (pe_lst (pa_cons pe_str (pa_cons pe_str pa_nil)))) (pg_name (i := 22) scA.nd rfl (Or.inl rfl)) (pss_cons p0 (pss_cons p1 (pss_one p2))),
    fun D r dg gd a b g nl ol ow gs gs2 ms hs bs ag FA FB who ys v0 v1 v2 v4 v5 v6 v7 v8 v10 v11 v12 v13 v18 v24 v25 v26 v27 v28 v29 u19 u14 u22 u23 H tk ra egd gi hl ok ea eb fa fb eg hag en al eo k1 => ?_⟩
  have hgs : ∀ q ∈ gs, 0 ≤ q.2 ∧ q.2 ≤ 3 := fun q hq => (gi.ok q hq).2
  have hgs2 : ∀ q ∈ gs2, 0 ≤ q.2 ∧ q.2 ≤ 3 := fun q hq => hgs q (gi.pm.mem_iff.mp hq)
  have nms := ok.names
  have hot : (others ag who).length ≤ 4 := by
    have h1 := so_len (ag.filter fun x => !decide (x = who))
    have h2 := List.length_filter_le (fun x => !decide (x = who)) ag
    unfold others
    omega
  have hnd : (need ow FA FB).length ≤ 20 := by
    have h1 := chg_len FA FB
    have h3 : (need ow FA FB).length ≤ (chg FA FB).length := List.length_filterMap_le _ _
    have := fa.len
    have := fb.len
    omega
  have hrow : ∀ q ∈ need ow FA FB, q.2.length ≤ 30 ∧ (∀ n ∈ q.2, okS n) ∧ q.1.length ≤ 1000 := fun q hq => by
    obtain ⟨h1, h2, h3⟩ := need_ok fa.ok fb.ok nms q hq
    obtain ⟨_, p, e⟩ := need_ne hq
    exact ⟨by rw [e]; exact own_len (ok.small hl) p, h2, by rw [← tl_len]; exact h3⟩
  have eL : ∀ br, dueA gs2 br (others ag who) ++ (if (gl gs2 br).isSome = true then (need ow FA FB).filterMap (lackOf who (others ag who)) else []) = lacks gs br who (others ag who) (need ow FA FB) := fun br => by
    unfold dueA lacks shortOf
    rw [gi.gl]
  refine ⟨by show 2 ≤ sizeLine; decide, fun L hL => ?_⟩
  have w0 : Go T H (upd H L (.lst [.str "main", .str "side"])) := go_upd tk hL
  refine ⟨L, rfl, ⟨_, SqL.of upd_same⟩, for_list (xs := [.str "main", .str "side"]) (fun i σ G => Go T H G ∧ G L = some (.lst [.str "main", .str "side"]) ∧ ∃ (w19 w14 w22 w23 : Option V), σ = [v0, v1, v2, some (.ref gd), v4, v5, v6, v7, v8, some (.ref a), v10, v11, v12, v13, w14, some (.ref b), some (.str who), some (.ref g), v18, w19, some (.ref nl), some (.ref ol), w22, w23, v24, v25, v26, v27, v28, v29, some (.ref r)]) ⟨w0, upd_same, u19, u14, u22, u23, rfl⟩ (fun i σ G _ h => SqL.of h.2.1) (fun i x σ G hix h => ?_) (fun σ G h => ?_)⟩
  · obtain ⟨gG, eL2, w19, w14, w22, w23, rfl⟩ := h
    obtain ⟨br, rfl⟩ : ∃ br : Str, x = .str br := by
      rcases i with _ | _ | i
      · cases hix; exact ⟨_, rfl⟩
      · cases hix; exact ⟨_, rfl⟩
      · cases hix
    refine q0 _ gd ol gs2 br (others ag who) _ _ _ _ _ _ _ _ _ _ _ _ _ _ _ _ _ _ _ _ _ _ _ _ _ _ _ _ _ gG.2 (gG.at egd) (gG.at eo) hot hgs2 fun G1 d1 g1 e1 => ?_
    have gg1 := gG.trans g1
    refine q1 _ gd d1 ol nl gs2 br who (others ag who) _ (need ow FA FB) ys _ _ _ _ _ _ _ _ _ _ _ _ _ _ _ _ _ _ _ _ _ _ _ _ _ _ g1.2 (gg1.at egd) (gg1.at eo) e1 (by unfold dueA; split <;> simp) (gg1.at en) (al.imp fun _ _ h => h.ext gg1.t) hnd hrow fun G2 d2 z19 z14 g2 e2 => ?_
    rw [eL] at e2
    have gg2 := gg1.trans g2
    refine q2 _ r dg a b g d2 ow gs ms hs bs ag FA FB br who _ _ _ _ _ _ _ _ _ _ _ _ _ _ _ _ _ _ _ _ _ _ _ _ _ g2.2 (ra.ext gg2 (by simp) (by simp)) hl ok hgs (gg2.at ea) (gg2.at eb) fa fb (gg2.at eg) hag e2 fun G3 g3 => ?_
    exact ⟨gg2.trans g3, ((g1.trans g2).trans g3).at eL2, _, _, _, _, rfl⟩
  · obtain ⟨gG, _, w19, w14, w22, w23, rfl⟩ := h
    exact k1 G w19 w14 w22 w23 gG
/-- words, due = .., [] -/
theorem st13 (hr : Room 24 (A.deeper (envOfC "law" (defScope sLaw) s.heap.objs.size f cdv))) (l : La P w K mg base T CS N) :
    ∃ t, PS (lawCx P w K mg base f cdv A outer s H0 E) (lawBody.getD 13 noS) t ∧ ∀ (D : Ends) (d : Addr) (v0 v1 v3 v4 v5 v6 v7 v8 v9 v10 v11 v12 v13 v14 v15 v16 v17 v18 v19 v20 v21 v22 v25 v26 v27 v28 v29 v30 : Option V) (u24 u23 : Option V) (H : Hp), TOk T H → DiceAt H d →
      (∀ (H' : Hp) (wd : Str) (dl : Addr), GoE T [d] H H' → DiceAt H' d → wd ∈ wd3 → H' dl = some (.lst []) → D.nx [v0, v1, some (.ref d), v3, v4, v5, v6, v7, v8, v9, v10, v11, v12, v13, v14, v15, v16, v17, v18, v19, v20, v21, v22, some (.ref dl), some (.str wd), v25, v26, v27, v28, v29, v30] H') →
      t D [v0, v1, some (.ref d), v3, v4, v5, v6, v7, v8, v9, v10, v11, v12, v13, v14, v15, v16, v17, v18, v19, v20, v21, v22, u23, u24, v25, v26, v27, v28, v29, v30] H := by
  refine ⟨_, ps_asg (pe_tup (pa_cons (pe_ix ix_list (pe_lst (pa_cons pe_str (pa_cons pe_str (pa_cons pe_str pa_nil)))) (pe_call l.GD (hr.mono (by decide)) rfl l.mD l.kD l.bD .nil pass0 (pa_cons (pv 2) (pa_cons pe_int pa_nil))) (fun _ _ => rfl)) (pa_cons (pe_lst pa_nil) pa_nil))) (pg_tup rfl (pgs_cons (pg_name (i := 24) scA.nd rfl (Or.inr rfl)) (pgs_cons (pg_name (i := 23) scA.nd rfl (Or.inl rfl)) pgs_nil))), fun D d v0 v1 v3 v4 v5 v6 v7 v8 v9 v10 v11 v12 v13 v14 v15 v16 v17 v18 v19 v20 v21 v22 v25 v26 v27 v28 v29 v30 u24 u23 H tk dk k1 => ?_⟩
  refine ⟨by show 3 ≤ sizeLine; decide, fun q hq => ?_⟩
  have w1 : Go T H (upd H q (.lst (wd3.map V.str))) := go_upd tk hq
  have nqd : q ≠ d := dk.ne hq
  refine ⟨_, rfl, d, 3, rfl, by decide, by decide, dk.go w1, fun r1 xs1 h0 h3 dv1 => ?_⟩
  obtain ⟨g1, dk1⟩ := roll_go (S := [d]) (Go.any w1) (by simp) (dk.go w1) dv1
  have eq1 : upd (upd H q (.lst (wd3.map V.str))) d (.lst xs1) q = some (.lst (wd3.map V.str)) := by rw [upd_ne nqd]; exact upd_same
  show rIxL K (.ref q) (.int r1) (upd (upd H q (.lst (wd3.map V.str))) d (.lst xs1)) _
  generalize upd (upd H q (.lst (wd3.map V.str))) d (.lst xs1) = G1 at g1 dk1 eq1 ⊢
  obtain ⟨wd, hw, eat⟩ := wd3_at h0 h3
  refine ⟨q, _, _, _, rfl, rfl, SqL.of eq1, eat, by decide, fun dl hdl => ⟨by show 2 ≤ sizeLine; decide, fun p hp => ⟨p, _, rfl, SqT.of upd_same, rfl, _, _, rfl, _, _, rfl, rfl, ?_⟩⟩⟩
  have w2 : Go T G1 (upd G1 dl (.lst [])) := go_upd g1.2 hdl
  have w3 : Go T (upd G1 dl (.lst [])) (upd (upd G1 dl (.lst [])) p (.tup [.str wd, .ref dl])) := go_upd w2.2 hp
  exact k1 _ wd dl (g1.trans (Go.any (w2.trans w3))) (dk1.go (w2.trans w3)) hw (w3.at upd_same)
end
end R
end Text_R37
section Text_R38
set_option Elab.async false
set_option linter.all false
set_option maxRecDepth 100000
set_option maxHeartbeats 4000000
namespace R
open PySem PySem.Spec PyProof.Rows L2 Gx GxR LamY LamZ

theorem rep_due {T : Tb} {H : Hp} {L dl : Addr} {z : Str} {ds : List Str} {c : Bool} {Q : VK} (tk : TOk T H) (eL : H L = some (.lst [.str z])) (ed : H dl = some (.lst (ds.map V.str))) (hds : ds.length ≤ 1000) (h : ∀ H' d2, Go T H H' → H' d2 = some (.lst ((ds ++ (if c = true then [z] else [])).map V.str)) → Q (.ref d2) H') :
    rRep (.ref L) (.int (if c = true then 1 else 0)) H fun v H1 => rCat (.ref dl) v H1 Q := by
  refine ⟨L, _, _, rfl, rfl, eL, by split <;> decide, by split <;> decide, by rw [sizeLine_eq]; show 1 * _ ≤ _; split <;> decide, fun p hp => ?_⟩
  have e8 : (List.replicate (if c = true then (1 : Int) else 0).toNat [V.str z]).flatten = ((if c = true then [z] else []) : List Str).map V.str := by cases c <;> rfl
  rw [e8]
  have w1 : Go T H (upd H p (.lst (((if c = true then [z] else []) : List Str).map V.str))) := go_upd tk hp
  refine ⟨dl, p, _, _, rfl, rfl, w1.at ed, upd_same, ?_, fun q hq => ?_⟩
  · rw [List.length_map, List.length_map, sizeLine_eq]
    have : ((if c = true then [z] else []) : List Str).length ≤ 1 := by split <;> simp
    omega
  · rw [← List.map_append]
    exact h _ q (w1.trans (go_upd w1.2 hq)) upd_same
def longL (B : Files) (ms : Int) (p : Str) : Bool := (lk B p).isSome && decide (ms < (((lk B p).getD "").length : Int))
def barL (A : Files) (bs : List Str) (p : Str) : Bool := (lk A p).isNone && bs.any fun x => fitS x p
def lfault (A B : Files) (ms : Int) (bs : List Str) (p : Str) : List Str := (if longL B ms p = true then [longT p] else []) ++ (if barL A bs p = true then [barT p] else [])
theorem row_fault {A B : Files} {ms : Int} {bs : List Str} {p : Str} {r : Str × Str} (hp : p ∈ paths A B) (e : chgOf A B p = some r) : faultRow B ms bs r = lfault A B ms bs p := by
  have e2 := chgOf_snd e
  unfold faultRow lfault isLong isBar longL barL
  rw [e2]
  unfold chgOf at e
  cases hA : lk A p with
  | none =>
    rw [hA] at e
    cases e
    have hB : ∃ x, lk B p = some x := by
      rcases paths_mem hp with q | q
      · obtain ⟨x, hx⟩ := lk_some q
        rw [hA] at hx
        cases hx
      · exact lk_some q
    obtain ⟨x, hx⟩ := hB
    rw [hx]
    have d1 : decide (("come" : Str) = "gone") = false := by decide +kernel
    have d2 : decide (("come" : Str) = "come") = true := by decide +kernel
    show (if (!decide (("come" : Str) = "gone") && _) = true then _ else _) ++ (if (decide (("come" : Str) = "come") && _) = true then _ else _) = _
    rw [d1, d2]
    rfl
  | some y =>
    cases hB : lk B p with
    | none =>
      rw [hA, hB] at e
      cases e
      have d1 : decide (("gone" : Str) = "gone") = true := by decide +kernel
      have d2 : decide (("gone" : Str) = "come") = false := by decide +kernel
      show (if (!decide (("gone" : Str) = "gone") && _) = true then _ else _) ++ (if (decide (("gone" : Str) = "come") && _) = true then _ else _) = _
      rw [d1, d2]
      rfl
    | some x =>
      rw [hA, hB] at e
      have e : (if y = x then none else some (("other" : Str), p)) = some r := e
      split at e
      · cases e
      · cases e
        have d1 : decide (("other" : Str) = "gone") = false := by decide +kernel
        have d2 : decide (("other" : Str) = "come") = false := by decide +kernel
        show (if (!decide (("other" : Str) = "gone") && _) = true then _ else _) ++ (if (decide (("other" : Str) = "come") && _) = true then _ else _) = _
        rw [d1, d2]
        rfl
theorem chg_some {A B : Files} {p : Str} (hp : p ∈ paths A B) : (chgOf A B p).isSome = !decide (lk A p = lk B p) := by
  unfold chgOf
  cases hA : lk A p with
  | none =>
    have hB : ¬ (none : Option Str) = lk B p := fun z => by
      rcases paths_mem hp with q | q
      · obtain ⟨x, hx⟩ := lk_some q
        rw [hA] at hx
        cases hx
      · obtain ⟨x, hx⟩ := lk_some q
        rw [← z] at hx
        cases hx
    rw [decide_eq_false hB]
    rfl
  | some x =>
    cases hB : lk B p with
    | none => simp
    | some y =>
      by_cases z : x = y
      · rw [z]; simp
      · simp [z]
theorem faults_l (A B : Files) (ms : Int) (bs : List Str) : (chg A B).flatMap (faultRow B ms bs) = (lchg A B).flatMap (lfault A B ms bs) := by
  have : ∀ l : List Str, (∀ p ∈ l, p ∈ paths A B) → (l.filterMap (chgOf A B)).flatMap (faultRow B ms bs) = (l.filter fun p => !decide (lk A p = lk B p)).flatMap (lfault A B ms bs) := by
    intro l
    induction l with
    | nil => exact fun _ => rfl
    | cons p l ih =>
      intro hp
      have ih := ih fun q hq => hp q (List.mem_cons_of_mem _ hq)
      have h0 := hp p List.mem_cons_self
      have hs := chg_some h0
      cases e : chgOf A B p with
      | none =>
        rw [e] at hs
        rw [List.filterMap_cons_none e, List.filter_cons, if_neg (by rw [← hs]; decide)]
        exact ih
      | some r =>
        rw [e] at hs
        rw [List.filterMap_cons_some e, List.filter_cons, if_pos (by rw [← hs]; rfl), List.flatMap_cons, List.flatMap_cons, row_fault h0 e, ih]
  exact this _ fun _ h => h
theorem chg_nil {A B : Files} : chg A B = [] ↔ lchg A B = [] := by
  rw [← chg_snd, List.map_eq_nil_iff]
def fltBody : List Stmt := forBody (lawBody.getD 14 noS)
section
variable {P : Program} {w : World} {K : PySem.W.Frag} {mg : Str → Option Value} {base : Heap} {T : Tb} {C CR CS : Addr} {M : MD} {N : LD}
variable {f : Addr} {cdv : Value} {A : Around} {outer : List Env} {s : Shared} {H0 : Hp} {E : XK}

/-- due = due + ["long " + path] * .. -/
theorem st140 (hr : Room 24 (A.deeper (envOfC "law" (defScope sLaw) s.heap.objs.size f cdv))) (m : Ms P w K mg base T C CR CS M) :
    ∃ t, PS (lawCx P w K mg base f cdv A outer s H0 E) (fltBody.getD 0 noS) t ∧ ∀ (D : Ends) (b dl : Addr) (FB : Files) (p : Str) (ms : Int) (ds : List Str) (v0 v1 v2 v3 v4 v5 v6 v7 v8 v9 v11 v12 v13 v14 v16 v17 v18 v20 v21 v22 v24 v25 v26 v27 v28 v29 v30 : Option V) (H : Hp), TOk T H → H b = some (.dK (fk FB)) → FOk FB → H dl = some (.lst (ds.map V.str)) → p.length ≤ 1000 → ds.length ≤ 100 →
      (∀ (H' : Hp) (d2 : Addr), Go T H H' → H' d2 = some (.lst ((ds ++ (if longL FB ms p = true then [longT p] else [])).map V.str)) → D.nx [v0, v1, v2, v3, v4, v5, v6, v7, v8, v9, some (.int ms), v11, v12, v13, v14, some (.ref b), v16, v17, v18, some (.str p), v20, v21, v22, some (.ref d2), v24, v25, v26, v27, v28, v29, v30] H') →
      t D [v0, v1, v2, v3, v4, v5, v6, v7, v8, v9, some (.int ms), v11, v12, v13, v14, some (.ref b), v16, v17, v18, some (.str p), v20, v21, v22, some (.ref dl), v24, v25, v26, v27, v28, v29, v30] H := by
  have hu := hu_of hr
  refine ⟨_, ps_set (i := 23) scA.nd rfl (Or.inl rfl) (pe_op op_cat (pv 23) (pe_op op_rep (pe_lst (pa_cons (pe_op op_add_str pe_str (pv 19)) pa_nil)) (pe_callTy call_int1 (by rfl) m.Y.int (by decide +kernel) (pa_cons (pe_and (pe_cmp (pc_din hu (pv 19) (pv 15)) rfl)
      (pe_one (pe_cmpR op_gt (pe_callB call_len_str (by rfl) m.Y.len PySem.boot_len (pa_cons (pe_dget hu (pv 15) (pv 19) (fun _ _ => rfl)) pa_nil)) (pv 10) (nomark _)))) pa_nil)))), fun D b dl FB p ms ds v0 v1 v2 v3 v4 v5 v6 v7 v8 v9 v11 v12 v13 v14 v16 v17 v18 v20 v21 v22 v24 v25 v26 v27 v28 v29 v30 H tk eb fb ed hp hds k1 => ?_⟩
  refine ⟨_, rfl, _, rfl, _, _, rfl, rfl, ?_, by show 1 ≤ sizeLine; decide, fun L1 hL1 => ?_⟩
  · rw [sizeLine_eq]
    have : ("long " : Str).length = 5 := by decide
    omega
  have w1 : Go T H (upd H L1 (.lst [.str (("long " : Str) ++ p)])) := go_upd tk hL1
  have eL : upd H L1 (.lst [.str (("long " : Str) ++ p)]) L1 = some (.lst [.str (longT p)]) := upd_same
  have eb1 := w1.at eb
  have ed1 := w1.at ed
  generalize upd H L1 (.lst [.str (("long " : Str) ++ p)]) = H1 at w1 eL eb1 ed1 ⊢
  have fin : ∀ c : Bool, c = longL FB ms p → rRep (.ref L1) (.int (if c = true then 1 else 0)) H1 fun v H2 => rCat (.ref dl) v H2 fun v H3 => D.nx ([v0, v1, v2, v3, v4, v5, v6, v7, v8, v9, some (.int ms), v11, v12, v13, v14, some (.ref b), v16, v17, v18, some (.str p), v20, v21, v22, some (.ref dl), v24, v25, v26, v27, v28, v29, v30].set 23 (some v)) H3 := fun c hc => by
    refine rep_due (T := T) w1.2 eL ed1 (by omega) fun H' d2 g e => ?_
    rw [hc] at e
    exact k1 H' d2 (w1.trans g) e
  refine ⟨_, rfl, _, rfl, b, _, rfl, DGet.k (k := Sum.inr p) eb1, _, rfl, ?_⟩
  rw [valV_fk]
  cases hB : lk FB p with
  | none => exact (if_neg (by decide)).mpr (.inr ⟨_, rfl, fin false (by unfold longL; rw [hB]; rfl)⟩)
  | some x =>
    obtain ⟨q, hq, _, ex⟩ := lk_mem hB
    have hx := (fb.2 q hq).1
    rw [ex] at hx
    have dB : DGet H1 b (.str p) (some (.str x)) := by
      have := DGet.k (k := Sum.inr p) eb1
      rw [valV_fk, hB] at this
      exact this
    refine (if_pos rfl).mpr ⟨_, rfl, _, rfl, b, _, rfl, dB, x, rfl, by rw [sizeLine_eq]; omega, _, rfl, _, _, rfl, rfl, .inr ⟨_, rfl, fin _ ?_⟩⟩
    unfold longL
    rw [hB]
    rfl
/-- due = due + ["barred " + path] * .. -/
theorem st141 (hr : Room 24 (A.deeper (envOfC "law" (defScope sLaw) s.heap.objs.size f cdv))) (m : Ms P w K mg base T C CR CS M) (l : La P w K mg base T CS N) :
    ∃ t, PS (lawCx P w K mg base f cdv A outer s H0 E) (fltBody.getD 1 noS) t ∧ ∀ (D : Ends) (a dl bl : Addr) (FA : Files) (p : Str) (bs ds : List Str) (v0 v1 v2 v3 v4 v5 v6 v7 v8 v10 v11 v13 v14 v15 v16 v17 v18 v20 v21 v22 v24 v25 v26 v27 v28 v29 v30 : Option V) (H : Hp), TOk T H → H a = some (.dK (fk FA)) → H dl = some (.lst (ds.map V.str)) → H bl = some (.lst (bs.map V.str)) → bs.Sublist bs2 → p.cps.toList.length ≤ 1000 → ds.length ≤ 100 →
      (∀ (H' : Hp) (d2 : Addr), Go T H H' → H' d2 = some (.lst ((ds ++ (if barL FA bs p = true then [barT p] else [])).map V.str)) → D.nx [v0, v1, v2, v3, v4, v5, v6, v7, v8, some (.ref a), v10, v11, some (.ref bl), v13, v14, v15, v16, v17, v18, some (.str p), v20, v21, v22, some (.ref d2), v24, v25, v26, v27, v28, v29, v30] H') →
      t D [v0, v1, v2, v3, v4, v5, v6, v7, v8, some (.ref a), v10, v11, some (.ref bl), v13, v14, v15, v16, v17, v18, some (.str p), v20, v21, v22, some (.ref dl), v24, v25, v26, v27, v28, v29, v30] H := by
  have hu := hu_of hr
  refine ⟨_, ps_set (i := 23) scA.nd rfl (Or.inl rfl) (pe_op op_cat (pv 23) (pe_op op_rep (pe_lst (pa_cons (pe_op op_add_str pe_str (pv 19)) pa_nil)) (pe_callTy call_int1 (by rfl) m.Y.int (by decide +kernel) (pa_cons (pe_and (pe_cmp (pc_dnotin hu (pv 19) (pv 9)) rfl)
      (pe_one (pe_cmpR (op_neD hr.units) (pe_lc (own := [("pattern", 13)]) (g := gName 13) rfl scA.nd (pi_list (pv 12)) (blkOk_by (N := NA) (sc := defScope sLaw) (by decide +kernel)) (fun _ _ _ _ _ => pg_name (i := 13) scA.nd rfl (Or.inl rfl) (Or.inr rfl))
        (fun _ _ _ _ _ => pts_one (pt_val (pe_call l.GX (hr.mono (by decide)) rfl l.mX l.kX l.bX .nil pass0 (pa_cons (pv 13) (pa_cons (pv 19) pa_nil))))) (fun _ _ _ _ _ => pv 13)) (pe_lst pa_nil) (nomark _)))) pa_nil)))), fun D a dl bl FA p bs ds v0 v1 v2 v3 v4 v5 v6 v7 v8 v10 v11 v13 v14 v15 v16 v17 v18 v20 v21 v22 v24 v25 v26 v27 v28 v29 v30 H tk ea ed eb sb hp hds k1 => ?_⟩
  have hp' : p.length ≤ 1000 := by rw [← tl_len]; exact hp
  refine ⟨_, rfl, _, rfl, _, _, rfl, rfl, ?_, by show 1 ≤ sizeLine; decide, fun L1 hL1 => ?_⟩
  · rw [sizeLine_eq]
    have : ("barred " : Str).length = 7 := by decide
    omega
  have w1 : Go T H (upd H L1 (.lst [.str (("barred " : Str) ++ p)])) := go_upd tk hL1
  have eL : upd H L1 (.lst [.str (("barred " : Str) ++ p)]) L1 = some (.lst [.str (barT p)]) := upd_same
  have ea1 := w1.at ea
  have eb1 := w1.at eb
  have ed1 := w1.at ed
  generalize upd H L1 (.lst [.str (("barred " : Str) ++ p)]) = H1 at w1 eL ea1 eb1 ed1 ⊢
  have fin : ∀ (c : Bool) (H2 : Hp), Go T H1 H2 → c = barL FA bs p → rRep (.ref L1) (.int (if c = true then 1 else 0)) H2 fun v H2 => rCat (.ref dl) v H2 fun v H3 => D.nx ([v0, v1, v2, v3, v4, v5, v6, v7, v8, some (.ref a), v10, v11, some (.ref bl), v13, v14, v15, v16, v17, v18, some (.str p), v20, v21, v22, some (.ref dl), v24, v25, v26, v27, v28, v29, v30].set 23 (some v)) H3 := fun c H2 g2 hc => by
    refine rep_due (T := T) g2.2 (g2.at eL) (g2.at ed1) (by omega) fun H' d2 g e => ?_
    rw [hc] at e
    exact k1 H' d2 ((w1.trans g2).trans g) e
  refine ⟨_, rfl, _, rfl, a, _, rfl, DGet.k (k := Sum.inr p) ea1, _, rfl, ?_⟩
  rw [valV_fk]
  cases hA : lk FA p with
  | some x => exact (if_neg Bool.false_ne_true).mpr (.inr ⟨_, rfl, fin false H1 (GoE.refl w1.2) (by unfold barL; rw [hA]; rfl)⟩)
  | none =>
    refine (if_pos rfl).mpr ⟨_, rfl, bl, rfl, ⟨_, SqL.of eb1⟩, fun D1 hD1 => ?_⟩
    have n1 : bl ≠ D1 := ne_of_none eb1 hD1
    have w2 : Go T H1 (upd H1 D1 (.lst [])) := go_upd w1.2 hD1
    have f2 : Fresh H1 D1 := fresh_none hD1
    refine lc_list (xs := bs.map V.str) (fun i G => GoE T [D1] (upd H1 D1 (.lst [])) G ∧ G D1 = some (.lst (((bs.take i).filter fun x => fitS x p).map V.str))) ⟨GoE.refl w2.2, upd_same⟩ (fun i G _ h => h.1.seq (SqL.of (w2.at eb1)) (by simpa using n1)) (fun i x G hix h => ?_) (fun G h => ?_)
    · obtain ⟨g, eD⟩ := h
      obtain ⟨y, hy, rfl⟩ := str_at hix
      have hy8 := (bs2_ok y (sb.subset (List.mem_of_getElem? hy))).2.2
      refine ⟨rfl, _, rfl, _, rfl, y, p, rfl, hy8, by decide, hp, g.2, fun G2 g2 => ⟨_, rfl, ?_⟩⟩
      have eD2 := g2.at eD
      rw [filter_snoc hy]
      by_cases z : fitS y p = true
      · rw [if_pos z]
        refine (if_pos z).mpr ⟨_, rfl, _, eD2, ?_, (g.trans (Go.any g2)).trans (go_set g2.2 eD2 mu_lst (by simp)), by rw [upd_same, List.map_append]; rfl⟩
        rw [List.length_map, sizeLine_eq]
        have h1 := List.length_filter_le (fun x => fitS x p) (bs.take i)
        have h2 : (bs.take i).length ≤ bs.length := by rw [List.length_take]; exact Nat.min_le_right _ _
        have h3 := sb.length_le
        have : bs2.length = 2 := rfl
        omega
      · rw [if_neg z, List.append_nil]
        exact (if_neg z).mpr ⟨g.trans (Go.any g2), eD2⟩
    obtain ⟨g, eD⟩ := h
    rw [List.length_map, List.take_length] at eD
    have gG : Go T H1 G := GoE.news w2 g fun b hb => by rw [List.mem_singleton.mp hb]; exact f2
    refine ⟨by decide, fun L3 hL3 => ?_⟩
    have w3 : Go T G (upd G L3 (.lst [])) := go_upd gG.2 hL3
    have p1 : Pl 1 (.list ((bs.filter fun x => fitS x p).map PyData.str)) = true := pl_strs (fun x hx => (bs2_ok x (sb.subset (List.mem_filter.mp hx).1)).1)
    refine ⟨_, _, .lst (SqL.of (w3.at eD)) (dp_strs _), .lst (SqL.of upd_same) .nil, pl_shaped p1 (by decide), by decide, .inr ⟨_, rfl, fin _ _ (gG.trans w3) ?_⟩⟩
    have ev : PyData.eqv (.list ((bs.filter fun x => fitS x p).map PyData.str)) (.list []) = decide ((bs.filter fun x => fitS x p) = []) := by
      rw [Bool.eq_iff_iff, decide_eq_true_iff, pl_eqv 1 _ _ p1 rfl, PyData.list.injEq, List.map_eq_nil_iff]
    rw [ev]
    unfold barL
    rw [hA]
    show _ = bs.any fun x => fitS x p
    cases z : bs.any fun x => fitS x p with
    | true =>
      obtain ⟨x, hx, hz⟩ := List.any_eq_true.mp z
      rw [decide_eq_false fun y => (List.filter_eq_nil_iff.mp y) x hx hz]
      rfl
    | false =>
      rw [decide_eq_true (List.filter_eq_nil_iff.mpr fun x hx hz => by
        have := List.any_eq_false.mp z x hx
        exact this hz)]
      rfl
end
end R
end Text_R38
section Text_R39
set_option Elab.async false
set_option linter.all false
set_option maxRecDepth 100000
set_option maxHeartbeats 4000000
namespace R
open PySem PySem.Spec PyProof.Rows L2 Gx GxR LamY LamZ
section
variable {P : Program} {w : World} {K : PySem.W.Frag} {mg : Str → Option Value} {base : Heap} {T : Tb} {C CR CS : Addr} {M : MD} {N : LD}
variable {f : Addr} {cdv : Value} {A : Around} {outer : List Env} {s : Shared} {H0 : Hp} {E : XK}

/-- for path in paths: .. -/
theorem st14 (hr : Room 24 (A.deeper (envOfC "law" (defScope sLaw) s.heap.objs.size f cdv))) (m : Ms P w K mg base T C CR CS M) (l : La P w K mg base T CS N) :
    ∃ t, PS (lawCx P w K mg base f cdv A outer s H0 E) (lawBody.getD 14 noS) t ∧ ∀ (D : Ends) (a b dl pl bl : Addr) (FA FB : Files) (ms : Int) (bs : List Str) (v0 v1 v2 v3 v4 v5 v6 v7 v8 v11 v13 v14 v16 v17 v20 v21 v22 v24 v25 v26 v27 v28 v29 v30 : Option V) (u19 : Option V) (H : Hp), TOk T H → H a = some (.dK (fk FA)) → H b = some (.dK (fk FB)) → FOk FA → FOk FB → H dl = some (.lst []) → H pl = some (.lst ((lchg FA FB).map V.str)) → H bl = some (.lst (bs.map V.str)) → bs.Sublist bs2 →
      (∀ (H' : Hp) (d2 : Addr) (w19 : Option V), Go T H H' → H' d2 = some (.lst (((lchg FA FB).flatMap (lfault FA FB ms bs)).map V.str)) → D.nx [v0, v1, v2, v3, v4, v5, v6, v7, v8, some (.ref a), some (.int ms), v11, some (.ref bl), v13, v14, some (.ref b), v16, v17, some (.ref pl), w19, v20, v21, v22, some (.ref d2), v24, v25, v26, v27, v28, v29, v30] H') →
      t D [v0, v1, v2, v3, v4, v5, v6, v7, v8, some (.ref a), some (.int ms), v11, some (.ref bl), v13, v14, some (.ref b), v16, v17, some (.ref pl), u19, v20, v21, v22, some (.ref dl), v24, v25, v26, v27, v28, v29, v30] H := by
  obtain ⟨t0, p0, q0⟩ := st140 (H0 := H0) (E := E) (outer := outer) (s := s) (f := f) (A := A) hr m
  obtain ⟨t1, p1, q1⟩ := st141 (H0 := H0) (E := E) (outer := outer) (s := s) (f := f) (A := A) hr m l
  refine ⟨_, ps_for PassesOwn.never rfl (pi_list (pv 18)) (pg_name (i := 19) scA.nd rfl (Or.inr rfl)) (pss_cons p0 (pss_one p1)), fun D a b dl pl bl FA FB ms bs v0 v1 v2 v3 v4 v5 v6 v7 v8 v11 v13 v14 v16 v17 v20 v21 v22 v24 v25 v26 v27 v28 v29 v30 u19 H tk ea eb fa fb ed ep eB sb k1 => ?_⟩
  have hln : (lchg FA FB).length ≤ 10 := by
    have h1 := lchg_len FA FB
    have := fa.len
    have := fb.len
    omega
  have hlf : ∀ p, (lfault FA FB ms bs p).length ≤ 2 := fun p => by
    unfold lfault
    rw [List.length_append]
    have h1 : ((if longL FB ms p = true then [longT p] else []) : List Str).length ≤ 1 := by split <;> simp
    have h2 : ((if barL FA bs p = true then [barT p] else []) : List Str).length ≤ 1 := by split <;> simp
    omega
  have hfl : ∀ l : List Str, (l.flatMap (lfault FA FB ms bs)).length ≤ 2 * l.length := fun l => by
    induction l with
    | nil => exact Nat.le_refl _
    | cons p l ih =>
      rw [List.flatMap_cons, List.length_append, List.length_cons]
      have := hlf p
      omega
  refine ⟨_, rfl, pl, rfl, ⟨_, SqL.of ep⟩, for_list (xs := (lchg FA FB).map V.str) (fun i σ G => Go T H G ∧ ∃ (d2 : Addr) (w19 : Option V), σ = [v0, v1, v2, v3, v4, v5, v6, v7, v8, some (.ref a), some (.int ms), v11, some (.ref bl), v13, v14, some (.ref b), v16, v17, some (.ref pl), w19, v20, v21, v22, some (.ref d2), v24, v25, v26, v27, v28, v29, v30] ∧ G d2 = some (.lst ((((lchg FA FB).take i).flatMap (lfault FA FB ms bs)).map V.str))) ⟨GoE.refl tk, dl, u19, rfl, by rw [List.take_zero]; exact ed⟩ (fun i σ G _ h => SqL.of (h.1.at ep)) (fun i x σ G hix h => ?_) (fun σ G h => ?_)⟩
  · obtain ⟨g, d2, w19, rfl, e2⟩ := h
    obtain ⟨p, hp, rfl⟩ := str_at hix
    have hpm : p ∈ lchg FA FB := List.mem_of_getElem? hp
    obtain ⟨hp2, hp1⟩ := paths_ok fa.ok fb.ok _ (lchg_mem hpm)
    have hp3 : p.length ≤ 1000 := by rw [← tl_len]; exact hp2
    have hl0 : (((lchg FA FB).take i).flatMap (lfault FA FB ms bs)).length ≤ 20 := by
      have h1 := hfl ((lchg FA FB).take i)
      have h2 : ((lchg FA FB).take i).length ≤ (lchg FA FB).length := by rw [List.length_take]; exact Nat.min_le_right _ _
      omega
    refine q0 _ b d2 FB p ms _ _ _ _ _ _ _ _ _ _ _ _ _ _ _ _ _ _ _ _ _ _ _ _ _ _ _ _ _ g.2 (g.at eb) fb e2 hp3 (by omega) fun G1 d3 g1 e3 => ?_
    have gg1 := g.trans g1
    refine q1 _ a d3 bl FA p bs _ _ _ _ _ _ _ _ _ _ _ _ _ _ _ _ _ _ _ _ _ _ _ _ _ _ _ _ _ g1.2 (gg1.at ea) e3 (gg1.at eB) sb hp2 ?_ fun G2 d4 g2 e4 => ⟨gg1.trans g2, d4, _, rfl, ?_⟩
    · rw [List.length_append]
      have h2 : ((if longL FB ms p = true then [longT p] else []) : List Str).length ≤ 1 := by split <;> simp
      omega
    · rw [e4, take_snoc hp, List.flatMap_append, List.append_assoc]
      show some (HO.lst _) = some (HO.lst ((((lchg FA FB).take i).flatMap (lfault FA FB ms bs) ++ (lfault FA FB ms bs p ++ [])).map V.str))
      rw [List.append_nil]
      rfl
  · obtain ⟨g, d2, w19, rfl, e2⟩ := h
    rw [List.length_map, List.take_length] at e2
    exact k1 G d2 w19 g e2
end
end R
end Text_R39
section Text_R40
set_option Elab.async false
set_option linter.all false
set_option maxRecDepth 100000
set_option maxHeartbeats 4000000
namespace R
open PySem PySem.Spec PyProof.Rows L2 Gx GxR LamY LamZ

theorem head_cut : ∀ wd ∈ wd3, ∀ h ∈ hd2, decide (cutS wd none (some (h.length : Int)) = h) = Txt.startswith wd h := by decide +kernel
theorem wd3_len : ∀ h ∈ wd3, h.length ≤ 8 := by decide +kernel
theorem hd2_len : ∀ h ∈ hd2, h.length ≤ 8 := by decide +kernel
theorem eqv_nil {xs : List Str} (h : ∀ x ∈ xs, okS x) : PyData.eqv (.list (xs.map PyData.str)) (.list []) = decide (xs = []) := by
  have p1 : Pl 1 (.list (xs.map PyData.str)) = true := pl_strs h
  rw [Bool.eq_iff_iff, decide_eq_true_iff, pl_eqv 1 _ _ p1 rfl, PyData.list.injEq, List.map_eq_nil_iff]
theorem sh_l {xs : List Str} (h : ∀ x ∈ xs, okS x) : SeqAt.shaped (.list (xs.map PyData.str)) = true := by
  have p1 : Pl 1 (.list (xs.map PyData.str)) = true := pl_strs h
  exact pl_shaped p1 (by decide)
theorem fork {c : Bool} {tb : TE} {σ : L2.St} {Q : VK} {H2 : Hp} (good : Bool → Hp → Prop) (hQ : ∀ b H', good b H' → Q (.bl b) H') (h0 : c = false → good false H2) (h1 : c = true → (∀ b H', good b H' → Q (.bl b) H') → tb σ H2 Q) : if c = true then tb σ H2 Q else Q (.bl false) H2 := by
  cases c with
  | false => exact (if_neg Bool.false_ne_true).mpr (hQ _ _ (h0 rfl))
  | true => exact (if_pos rfl).mpr (h1 rfl hQ)
section
variable {P : Program} {w : World} {K : PySem.W.Frag} {mg : Str → Option Value} {base : Heap} {T : Tb} {C CR CS : Addr} {M : MD} {N : LD}
variable {f : Addr} {cdv : Value} {A : Around} {outer : List Env} {s : Shared} {H0 : Hp} {E : XK}

/-- due = due + ["words"] * .. + ["empty"] * .. -/
theorem st15 (hr : Room 24 (A.deeper (envOfC "law" (defScope sLaw) s.heap.objs.size f cdv))) (m : Ms P w K mg base T C CR CS M) :
    ∃ t, PS (lawCx P w K mg base f cdv A outer s H0 E) (lawBody.getD 15 noS) t ∧ ∀ (D : Ends) (dl hl pl : Addr) (wd : Str) (hs ps ds : List Str) (v0 v1 v2 v3 v4 v5 v6 v7 v8 v9 v10 v12 v13 v14 v15 v16 v17 v19 v20 v21 v22 v25 v26 v27 v28 v29 v30 : Option V) (H : Hp), TOk T H → H dl = some (.lst (ds.map V.str)) → H hl = some (.lst (hs.map V.str)) → hs.Sublist hd2 → H pl = some (.lst (ps.map V.str)) → (∀ p ∈ ps, okS p) → wd ∈ wd3 → ds.length ≤ 100 →
      (∀ (H' : Hp) (d2 : Addr), Go T H H' → H' d2 = some (.lst ((ds ++ (if noHead hs wd = true then [("words" : Str)] else []) ++ (if ps = [] then [("empty" : Str)] else [])).map V.str)) → D.nx [v0, v1, v2, v3, v4, v5, v6, v7, v8, v9, v10, some (.ref hl), v12, v13, v14, v15, v16, v17, some (.ref pl), v19, v20, v21, v22, some (.ref d2), some (.str wd), v25, v26, v27, v28, v29, v30] H') →
      t D [v0, v1, v2, v3, v4, v5, v6, v7, v8, v9, v10, some (.ref hl), v12, v13, v14, v15, v16, v17, some (.ref pl), v19, v20, v21, v22, some (.ref dl), some (.str wd), v25, v26, v27, v28, v29, v30] H := by
  have hu := hu_of hr
  refine ⟨_, ps_set (i := 23) scA.nd rfl (Or.inl rfl) (pe_op op_cat (pe_op op_cat (pv 23) (pe_op op_rep (pe_lst (pa_cons pe_str pa_nil)) (pe_callTy call_int1 (by rfl) m.Y.int (by decide +kernel) (pa_cons (pe_and (pe_cmpR (op_neD hr.units) (pv 11) (pe_lst pa_nil) (nomark _))
      (pe_one (pe_cmpR (op_eqD hr.units) (pe_lc (own := [("head", 25)]) (g := gName 25) rfl scA.nd (pi_list (pv 11)) (blkOk_by (N := NA) (sc := defScope sLaw) (by decide +kernel)) (fun _ _ _ _ _ => pg_name (i := 25) scA.nd rfl (Or.inl rfl) (Or.inr rfl))
        (fun _ _ _ _ _ => pts_one (pt_cmpR op_eq (pe_slice sl_str (pv 24) po_none (po_some (pe_callB call_len_str (by rfl) m.Y.len PySem.boot_len (pa_cons (pv 25) pa_nil)))) (pv 25) (by rfl))) (fun _ _ _ _ _ => pv 25)) (pe_lst pa_nil) (nomark _)))) pa_nil))))
      (pe_op op_rep (pe_lst (pa_cons pe_str pa_nil)) (pe_callTy call_int1 (by rfl) m.Y.int (by decide +kernel) (pa_cons (pe_cmpR (op_eqD hr.units) (pv 18) (pe_lst pa_nil) (nomark _)) pa_nil)))), fun D dl hl pl wd hs ps ds v0 v1 v2 v3 v4 v5 v6 v7 v8 v9 v10 v12 v13 v14 v15 v16 v17 v19 v20 v21 v22 v25 v26 v27 v28 v29 v30 H tk ed eh sb ep hps hw hds k1 => ?_⟩
  refine ⟨_, rfl, by show 1 ≤ sizeLine; decide, fun L1 hL1 => ?_⟩
  have w1 : Go T H (upd H L1 (.lst [.str "words"])) := go_upd tk hL1
  have eL : upd H L1 (.lst [.str "words"]) L1 = some (.lst [.str "words"]) := upd_same
  have ed1 := w1.at ed
  have eh1 := w1.at eh
  have ep1 := w1.at ep
  generalize upd H L1 (.lst [.str "words"]) = H1 at w1 eL ed1 eh1 ep1 ⊢
  have hhs : ∀ x ∈ hs, okS x := fun x hx => (hd2_ok x (sb.subset hx)).1
  have hsl : hs.length ≤ 2 := sb.length_le
  refine ⟨_, rfl, by decide, fun e0 he0 => ?_⟩
  have w2 : Go T H1 (upd H1 e0 (.lst [])) := go_upd w1.2 he0
  have ee0 : upd H1 e0 (.lst []) e0 = some (.lst []) := upd_same
  generalize upd H1 e0 (.lst []) = H2 at w2 ee0 ⊢
  refine ⟨_, _, .lst (SqL.of (w2.at eh1)) (dp_strs _), .lst (SqL.of ee0) .nil, sh_l hhs, by decide, _, rfl, ?_⟩
  rw [eqv_nil hhs]
  refine fork (fun b G => Go T H2 G ∧ b = noHead hs wd) (fun b G h => ?_) (fun h => ⟨GoE.refl w2.2, ?_⟩) (fun h hQ => ?_)
  · obtain ⟨g, hb⟩ := h
    have gg := w2.trans g
    refine .inr ⟨_, rfl, ?_⟩
    refine rep_due (T := T) g.2 (gg.at eL) (gg.at ed1) (by omega) fun G1 d1 g1 e1 => ?_
    rw [hb] at e1
    have g01 := gg.trans g1
    refine ⟨by show 1 ≤ sizeLine; decide, fun L2 hL2 => ?_⟩
    have w3 : Go T G1 (upd G1 L2 (.lst [.str "empty"])) := go_upd g1.2 hL2
    have eL2 : upd G1 L2 (.lst [.str "empty"]) L2 = some (.lst [.str "empty"]) := upd_same
    have e2 := w3.at e1
    generalize upd G1 L2 (.lst [.str "empty"]) = G2 at w3 eL2 e2 ⊢
    have g02 := g01.trans w3
    refine ⟨_, rfl, by decide, fun e5 he5 => ?_⟩
    have w4 : Go T G2 (upd G2 e5 (.lst [])) := go_upd w3.2 he5
    refine ⟨_, _, .lst (SqL.of ((g02.trans w4).at ep1)) (dp_strs _), .lst (SqL.of upd_same) .nil, sh_l hps, by decide, .inr ⟨_, rfl, ?_⟩⟩
    rw [eqv_nil hps]
    refine rep_due (T := T) w4.2 (w4.at eL2) (w4.at e2) ?_ fun G4 d4 g4 e4 => ?_
    · rw [List.length_append]
      have : ((if noHead hs wd = true then [("words" : Str)] else []) : List Str).length ≤ 1 := by split <;> simp
      omega
    · refine k1 G4 d4 (((w1.trans g02).trans w4).trans g4) ?_
      rw [e4]
      simp only [decide_eq_true_iff]
  · have hn : hs = [] := by
      by_cases z : hs = []
      · exact z
      · rw [decide_eq_false z] at h
        cases h
    rw [hn]
    rfl
  · have hn : hs ≠ [] := fun z => by
      rw [decide_eq_true z] at h
      cases h
    have eh2 := w2.at eh1
    refine ⟨_, rfl, hl, rfl, ⟨_, SqL.of eh2⟩, fun D1 hD1 => ?_⟩
    have n1 : hl ≠ D1 := ne_of_none eh2 hD1
    have w3 : Go T H2 (upd H2 D1 (.lst [])) := go_upd w2.2 hD1
    have f3 : Fresh H2 D1 := fresh_none hD1
    refine lc_list (xs := hs.map V.str) (fun i G => GoE T [D1] (upd H2 D1 (.lst [])) G ∧ G D1 = some (.lst (((hs.take i).filter fun x => Txt.startswith wd x).map V.str))) ⟨GoE.refl w3.2, upd_same⟩ (fun i G _ h => h.1.seq (SqL.of (w3.at eh2)) (by simpa using n1)) (fun i x G hix h => ?_) (fun G h => ?_)
    · obtain ⟨g, eD⟩ := h
      obtain ⟨y, hy, rfl⟩ := str_at hix
      have hym := sb.subset (List.mem_of_getElem? hy)
      have hy8 := hd2_len y hym
      refine ⟨rfl, _, rfl, _, rfl, y, rfl, by rw [sizeLine_eq]; omega, _, rfl, wd, rfl, by rw [sizeLine_eq]; have := wd3_len wd hw; omega, _, rfl, rfl, ?_⟩
      have hc : decide (V.str (cutS wd none (some (y.length : Int))) = V.str y) = Txt.startswith wd y := by
        rw [← head_cut wd hw y hym, Bool.eq_iff_iff, decide_eq_true_iff, decide_eq_true_iff]
        exact V.str.injEq _ _ ▸ Iff.rfl
      rw [hc, filter_snoc hy]
      by_cases z : Txt.startswith wd y = true
      · rw [if_pos z]
        refine ⟨_, rfl, (if_pos z).mpr ?_⟩
        refine ⟨_, rfl, _, eD, ?_, g.trans (go_set g.2 eD mu_lst (by simp)), by rw [upd_same, List.map_append]; rfl⟩
        rw [List.length_map, sizeLine_eq]
        have h1 := List.length_filter_le (fun x => Txt.startswith wd x) (hs.take i)
        have h2 : (hs.take i).length ≤ hs.length := by rw [List.length_take]; exact Nat.min_le_right _ _
        omega
      · rw [if_neg z, List.append_nil]
        refine ⟨_, rfl, (if_neg z).mpr ?_⟩
        exact ⟨g, eD⟩
    obtain ⟨g, eD⟩ := h
    rw [List.length_map, List.take_length] at eD
    have gG : Go T H2 G := GoE.news w3 g fun b hb => by rw [List.mem_singleton.mp hb]; exact f3
    refine ⟨by decide, fun L3 hL3 => ?_⟩
    have w4 : Go T G (upd G L3 (.lst [])) := go_upd gG.2 hL3
    have hfo : ∀ x ∈ hs.filter fun x => Txt.startswith wd x, okS x := fun x hx => hhs x (List.mem_filter.mp hx).1
    refine ⟨_, _, .lst (SqL.of (w4.at eD)) (dp_strs _), .lst (SqL.of upd_same) .nil, sh_l hfo, by decide, hQ _ _ ⟨gG.trans w4, ?_⟩⟩
    rw [eqv_nil hfo]
    unfold noHead
    rw [decide_eq_false hn]
    show _ = !(hs.any fun h => Txt.startswith wd h)
    cases z : hs.any fun h => Txt.startswith wd h with
    | true =>
      obtain ⟨x, hx, hz⟩ := List.any_eq_true.mp z
      rw [decide_eq_false fun y => (List.filter_eq_nil_iff.mp y) x hx hz]
      rfl
    | false =>
      rw [decide_eq_true (List.filter_eq_nil_iff.mpr fun x hx hz => List.any_eq_false.mp z x hx hz)]
      rfl
end
end R
end Text_R40
section Text_R41
set_option Elab.async false
set_option linter.all false
set_option maxRecDepth 100000
set_option maxHeartbeats 4000000
namespace R
open PySem PySem.Spec PyProof.Rows L2 Gx GxR LamY LamZ

theorem ok_longT {p : Str} (h : okS p) : okS (longT p) := ok_app (by unfold okS; decide +kernel) h
theorem ok_barT {p : Str} (h : okS p) : okS (barT p) := ok_app (by unfold okS; decide +kernel) h
theorem faults_all (A B : Files) (ms : Int) (hs bs : List Str) (wd : Str) : (lchg A B).flatMap (lfault A B ms bs) ++ (if noHead hs wd = true then [("words" : Str)] else []) ++ (if lchg A B = [] then [("empty" : Str)] else []) = faults A B ms hs bs wd := by
  unfold faults
  rw [faults_l]
  by_cases z : lchg A B = []
  · rw [if_pos z, if_pos (chg_nil.mpr z)]
  · rw [if_neg z, if_neg fun y => z (chg_nil.mp y)]
theorem faults_ok {A B : Files} {ms : Int} {hs bs : List Str} {wd : Str} (hA : FOk A) (hB : FOk B) : ∀ x ∈ faults A B ms hs bs wd, okS x := fun x hx => by
  rw [← faults_all] at hx
  rcases List.mem_append.mp hx with hx | hx
  · rcases List.mem_append.mp hx with hx | hx
    · obtain ⟨p, hp, hx⟩ := List.mem_flatMap.mp hx
      have hk := (paths_ok hA.ok hB.ok _ (lchg_mem hp)).2
      unfold lfault at hx
      rcases List.mem_append.mp hx with hx | hx
      · split at hx
        · rw [List.mem_singleton.mp hx]
          exact ok_longT hk
        · simp at hx
      · split at hx
        · rw [List.mem_singleton.mp hx]
          exact ok_barT hk
        · simp at hx
    · split at hx
      · rw [List.mem_singleton.mp hx]
        unfold okS
        decide +kernel
      · simp at hx
  · split at hx
    · rw [List.mem_singleton.mp hx]
      unfold okS
      decide +kernel
    · simp at hx
section
variable {P : Program} {w : World} {K : PySem.W.Frag} {mg : Str → Option Value} {base : Heap} {T : Tb} {C CR CS : Addr} {M : MD} {N : LD}
variable {f : Addr} {cdv : Value} {A : Around} {outer : List Env} {s : Shared} {H0 : Hp} {E : XK}

/-- if list(rules.faults(..)) != due: .. -/
theorem st16 (hr : Room 24 (A.deeper (envOfC "law" (defScope sLaw) s.heap.objs.size f cdv))) (m : Ms P w K mg base T C CR CS M) :
    ∃ t, PS (lawCx P w K mg base f cdv A outer s H0 E) (lawBody.getD 16 noS) t ∧ ∀ (D : Ends) (r dg a b dl : Addr) (ow : Owns) (gs : Gs) (ms : Int) (hs bs : List Str) (FA FB : Files) (wd : Str) (v0 v1 v2 v3 v4 v5 v6 v7 v8 v10 v11 v12 v13 v14 v16 v17 v18 v19 v20 v21 v22 v25 v26 v27 v28 v29 : Option V) (H : Hp), TOk T H → RAt C H r dg ow gs ms hs bs → H a = some (.dK (fk FA)) → H b = some (.dK (fk FB)) → FOk FA → FOk FB → hs.Sublist hd2 → bs.Sublist bs2 →
      H dl = some (.lst (((lchg FA FB).flatMap (lfault FA FB ms bs) ++ (if noHead hs wd = true then [("words" : Str)] else []) ++ (if lchg FA FB = [] then [("empty" : Str)] else [])).map V.str)) →
      (∀ H', Go T H H' → D.nx [v0, v1, v2, v3, v4, v5, v6, v7, v8, some (.ref a), v10, v11, v12, v13, v14, some (.ref b), v16, v17, v18, v19, v20, v21, v22, some (.ref dl), some (.str wd), v25, v26, v27, v28, v29, some (.ref r)] H') →
      t D [v0, v1, v2, v3, v4, v5, v6, v7, v8, some (.ref a), v10, v11, v12, v13, v14, some (.ref b), v16, v17, v18, v19, v20, v21, v22, some (.ref dl), some (.str wd), v25, v26, v27, v28, v29, some (.ref r)] H := by
  refine ⟨_, ps_if (pt_cmpR (op_neD hr.units) (pe_callTy call_list_of (by rfl) m.Y.list (by decide +kernel) (pa_cons (pe_meth (pv 30) m.L.cl m.mU m.GU (hr.mono (by decide)) m.bU .nil pass0 (pa_cons (pv 9) (pa_cons (pv 15) (pa_cons (pv 24) pa_nil)))) pa_nil)) (pv 23) (nomark _)) (pss_one (ps_ret pe_bl)) pss_nil,
    fun D r dg a b dl ow gs ms hs bs FA FB wd v0 v1 v2 v3 v4 v5 v6 v7 v8 v10 v11 v12 v13 v14 v16 v17 v18 v19 v20 v21 v22 v25 v26 v27 v28 v29 H tk ra ea eb fa fb sh sb ed k1 => ?_⟩
  rw [faults_all] at ed
  obtain ⟨⟨dx, o, hh, bb, er, _⟩, _⟩ := id ra
  refine ⟨_, rfl, r, dx, _, rfl, er, look_no (by decide +kernel), _, rfl, _, rfl, _, rfl, r, dg, a, b, FA, FB, ow, gs, ms, hs, bs, wd, rfl, ra, ea, eb, fa.ok, fb.ok, tk, fun p hp => (bs2_ok p (sb.subset hp)).2.2, fun h hh => (hd2_ok h (sh.subset hh)).1, fun q hq => by have := (fb.2 q hq).1; omega, fun G1 l1 g1 e1 => ⟨l1, _, rfl, .inr (SqT.of e1), fun l2 hl2 => ?_⟩⟩
  have w2 : Go T G1 (upd G1 l2 (.lst ((faults FA FB ms hs bs wd).map V.str))) := go_upd g1.2 hl2
  have p1 : Pl 1 (.list ((faults FA FB ms hs bs wd).map PyData.str)) = true := pl_strs (faults_ok fa fb)
  refine ⟨_, rfl, _, _, .lst (SqL.of upd_same) (dp_strs _), .lst (SqL.of ((g1.trans w2).at ed)) (dp_strs _), pl_shaped p1 (by decide), pl_shaped p1 (by decide), _, rfl, ?_⟩
  rw [show PyData.eqv (.list ((faults FA FB ms hs bs wd).map PyData.str)) (.list ((faults FA FB ms hs bs wd).map PyData.str)) = true from eqv_self p1]
  exact iteF' (by decide) (k1 _ (g1.trans w2))
end
end R
end Text_R41
section Text_R42
set_option Elab.async false
set_option linter.all false
set_option maxRecDepth 100000
set_option maxHeartbeats 4000000
namespace R
open PySem PySem.Spec PyProof.Rows L2 Gx GxR LamY LamZ
section
variable {P : Program} {w : World} {K : PySem.W.Frag} {mg : Str → Option Value} {base : Heap} {T : Tb} {C CR CS : Addr} {M : MD} {N : LD}
variable {f : Addr} {cdv : Value} {A : Around} {outer : List Env} {s : Shared} {H0 : Hp} {E : XK}

/-- lines = [names for path, names in need if who not in names] -/
theorem st17 (hr : Room 24 (A.deeper (envOfC "law" (defScope sLaw) s.heap.objs.size f cdv))) :
    ∃ t, PS (lawCx P w K mg base f cdv A outer s H0 E) (lawBody.getD 17 noS) t ∧ ∀ (D : Ends) (nl : Addr) (xs : List V) (nd : Owns) (who : Str) (v0 v1 v2 v3 v4 v5 v6 v7 v8 v9 v10 v11 v12 v13 v14 v15 v17 v18 v19 v21 v22 v23 v24 v25 v27 v28 v29 v30 : Option V) (u26 : Option V) (H : Hp), TOk T H → H nl = some (.lst xs) → All2 (OwRow H) xs nd → nd.length ≤ 20 →
      (∀ (H' : Hp) (L : Addr) (ys : List V), Go T H H' → H' L = some (.lst ys) → All2 (NamesAt H') ys (linesOf nd who) → D.nx [v0, v1, v2, v3, v4, v5, v6, v7, v8, v9, v10, v11, v12, v13, v14, v15, some (.str who), v17, v18, v19, some (.ref nl), v21, v22, v23, v24, v25, some (.ref L), v27, v28, v29, v30] H') →
      t D [v0, v1, v2, v3, v4, v5, v6, v7, v8, v9, v10, v11, v12, v13, v14, v15, some (.str who), v17, v18, v19, some (.ref nl), v21, v22, v23, v24, v25, u26, v27, v28, v29, v30] H := by
  refine ⟨_, ps_set (i := 26) scA.nd rfl (Or.inr rfl) (pe_lc (own := [("path", 19), ("names", 14)]) rfl scA.nd (pi_list (pv 20)) (blkOk_by (N := NA) (sc := defScope sLaw) (by decide +kernel))
          (fun _ _ _ _ _ => pg_tupK K 2 rfl rfl (pgs_cons (pg_name (i := 19) scA.nd rfl (Or.inl rfl) (Or.inr rfl)) (pgs_cons (pg_name (i := 14) scA.nd rfl (Or.inl rfl) (Or.inr rfl)) pgs_nil)))
          (fun _ _ _ _ _ => pts_one (pt_cmpR (op_notIn_seqK K rfl) (pv 16) (pv 14) (by rfl))) (fun _ _ _ _ _ => pv 14)), fun D nl xs nd who v0 v1 v2 v3 v4 v5 v6 v7 v8 v9 v10 v11 v12 v13 v14 v15 v17 v18 v19 v21 v22 v23 v24 v25 v27 v28 v29 v30 u26 H tk en al hnd k1 => ?_⟩
  refine ⟨_, rfl, nl, rfl, ⟨xs, SqL.of en⟩, fun D1 hD1 => ?_⟩
  have n1 : nl ≠ D1 := ne_of_none en hD1
  have w1 : Go T H (upd H D1 (.lst [])) := go_upd tk hD1
  have f1 : Fresh H D1 := fresh_none hD1
  have al1 := al.imp fun _ _ h => OwRow.ext h w1.t
  refine lc_list (xs := xs) (fun i G => GoE T [D1] (upd H D1 (.lst [])) G ∧ ∃ acc, G D1 = some (.lst acc) ∧ All2 (NamesAt G) acc (linesOf (nd.take i) who)) ⟨GoE.refl w1.2, [], upd_same, All2.nil⟩ (fun i G _ h => h.1.seq (SqL.of (w1.at en)) (by simpa using n1)) (fun i x G hx h => ?_) (fun G h => ?_)
  · obtain ⟨g, acc, eD, aa⟩ := h
    obtain ⟨q, hq, t1, u1, rfl, e1, e2⟩ := al1.at hx
    have e1 := g.t _ _ e1
    have e2 := g.t _ _ e2
    refine ⟨t1, _, rfl, SqT.of e1, rfl, _, _, rfl, _, _, rfl, rfl, rfl, _, rfl, _, rfl, u1, _, rfl, .inr (SqT.of e2), rfl, flat_strs _, _, rfl, ?_⟩
    rw [if_pos rfl, inV_str, linesOf_snoc hq]
    by_cases hw : who ∈ q.2
    · refine (if_neg (by rw [decide_eq_true hw]; decide)).mpr ⟨g, acc, eD, ?_⟩
      rw [if_pos hw, List.append_nil]
      exact aa
    · have hal : acc.length < sizeLine := by
        rw [aa.1, sizeLine_eq]
        have h1 := linesOf_len (nd.take i) who
        have h2 : (nd.take i).length ≤ nd.length := by rw [List.length_take]; exact Nat.min_le_right _ _
        omega
      have w2 : GoE T [D1] G (upd G D1 (.lst (acc ++ [.ref u1]))) := go_set g.2 eD mu_lst (by simp)
      refine (if_pos (by rw [decide_eq_false hw]; rfl)).mpr ⟨_, rfl, acc, eD, hal, g.trans w2, _, upd_same, ?_⟩
      rw [if_neg hw]
      exact (aa.imp fun _ _ h => NamesAt.ext h w2.t).snoc ⟨u1, rfl, w2.t _ _ e2⟩
  · obtain ⟨g, rs, eD, ar⟩ := h
    rw [List.take_of_length_le (Nat.le_of_eq al.1.symm)] at ar
    have gG : Go T H G := GoE.news w1 g fun b hb => by rw [List.mem_singleton.mp hb]; exact f1
    exact k1 G D1 rs gG eD ar
end
end R
end Text_R42
section Text_R43
set_option Elab.async false
set_option linter.all false
set_option maxRecDepth 100000
set_option maxHeartbeats 4000000
namespace R
open PySem PySem.Spec PyProof.Rows L2 Gx GxR LamY LamZ

def sc18 : Scope := compSc (asgE (lawBody.getD 18 noS))
def ifs18 : Expr → List Expr
  | .ListComp _ [⟨_, _, i, _⟩] _ _ => i
  | _ => []
def lft : Expr → Expr
  | .Compare l _ _ _ => l
  | e => e
def in18 : Expr := lft ((ifs18 (asgE (lawBody.getD 18 noS))).getD 0 (asgE noS))
def sc19 : Scope := compSc in18
/-- a set of the law: how many, and who -/
def SetAt (H : Hp) (x : V) (p : List Str) : Prop := ∃ t u, x = .ref t ∧ H t = some (.tup [.int p.length, .ref u]) ∧ H u = some (.tup (p.map V.str))
theorem SetAt.go {H H' : Hp} {x : V} {p : List Str} (h : SetAt H x p) (e : ExtT H H') : SetAt H' x p := let ⟨t, u, a, b, c⟩ := h; ⟨t, u, a, e _ _ b, e _ _ c⟩
def inRow (p o : List Str) : List Str := o.filter fun n => decide (n ∈ p)
def missed (p : List Str) (ls : List (List Str)) : List (List Str) := ls.filter fun o => decide (inRow p o = [])
theorem missed_nil (ls : List (List Str)) (p : List Str) : decide (missed p ls = []) = hit ls p := by
  rw [Bool.eq_iff_iff, decide_eq_true_iff]
  unfold hit missed
  constructor
  · intro h
    refine List.all_eq_true.mpr fun o ho => ?_
    have h1 := List.filter_eq_nil_iff.mp h o ho
    cases e : inRow p o with
    | nil => exact absurd (decide_eq_true e) h1
    | cons n t =>
      have hn : n ∈ inRow p o := by rw [e]; exact List.mem_cons_self
      obtain ⟨a, b⟩ := List.mem_filter.mp hn
      exact List.any_eq_true.mpr ⟨n, of_decide_eq_true b, decide_eq_true a⟩
  · intro h
    refine List.filter_eq_nil_iff.mpr fun o ho z => ?_
    obtain ⟨n, hn, z2⟩ := List.any_eq_true.mp (List.all_eq_true.mp h o ho)
    have z : inRow p o = [] := of_decide_eq_true z
    exact List.filter_eq_nil_iff.mp z n (of_decide_eq_true z2) (decide_eq_true hn)
theorem dp_names {K : PySem.W.Frag} {H : Hp} {xs : List V} {ls : List (List Str)} (al : All2 (NamesAt H) xs ls) : DpAll K H xs (ls.map rowD) := dp_all2 (g := rowD) (fun x y h => by
  obtain ⟨t, rfl, et⟩ := h
  exact .tup (SqT.of et) (dp_strs _)) _ _ al
theorem pl_names {ls : List (List Str)} (h : ∀ l ∈ ls, ∀ x ∈ l, okS x) : Pl 2 (.list (ls.map rowD)) = true := by
  show (ls.map rowD).all (Pl 1) = true
  rw [List.all_eq_true]
  intro d hd
  obtain ⟨l, hl, rfl⟩ := List.mem_map.mp hd
  exact pl_strs (h l hl)
theorem eqv_nils {ls : List (List Str)} (h : ∀ l ∈ ls, ∀ x ∈ l, okS x) : PyData.eqv (.list (ls.map rowD)) (.list []) = decide (ls = []) := by
  rw [Bool.eq_iff_iff, decide_eq_true_iff, pl_eqv 2 _ _ (pl_names h) rfl, PyData.list.injEq, List.map_eq_nil_iff]
theorem filter_snocG {α : Type} {f : α → Bool} {xs : List α} {i : Nat} {x : α} (h : xs[i]? = some x) : (xs.take (i + 1)).filter f = (xs.take i).filter f ++ (if f x = true then [x] else []) := by
  rw [take_snoc h, List.filter_append]
  congr 1
  by_cases z : f x = true
  · rw [if_pos z]; simp [z]
  · rw [if_neg z]; simp [z]
theorem sets16 : (setsOf ppl).length = 16 := by decide +kernel
theorem sets_in : ∀ p ∈ setsOf ppl, p.length ≤ 4 := by decide +kernel
section
variable {P : Program} {w : World} {K : PySem.W.Frag} {mg : Str → Option Value} {base : Heap} {T : Tb} {C CR CS : Addr} {M : MD} {N : LD}
variable {f : Addr} {cdv : Value} {A : Around} {outer : List Env} {s : Shared} {H0 : Hp} {E : XK}

/-- sets = [(len(row), row) for row in _law_sets(people) if ..] -/
theorem st18 (hr : Room 24 (A.deeper (envOfC "law" (defScope sLaw) s.heap.objs.size f cdv))) (m : Ms P w K mg base T C CR CS M) (l : La P w K mg base T CS N) :
    ∃ t, PS (lawCx P w K mg base f cdv A outer s H0 E) (lawBody.getD 18 noS) t ∧ ∀ (D : Ends) (pl ll : Addr) (us : List V) (ls : List (List Str)) (v0 v2 v3 v4 v5 v6 v7 v8 v9 v10 v11 v12 v13 v14 v15 v16 v17 v18 v19 v20 v21 v22 v23 v24 v25 v27 v29 v30 : Option V) (u28 : Option V) (H : Hp), TOk T H → H pl = some (.lst (ppl.map V.str)) → H ll = some (.lst us) → All2 (NamesAt H) us ls → ls.length ≤ 20 → (∀ o ∈ ls, o.length ≤ 30 ∧ ∀ n ∈ o, okS n) →
      (∀ (H' : Hp) (L : Addr) (ys : List V), Go T H H' → H' L = some (.lst ys) → All2 (SetAt H') ys ((setsOf ppl).filter (hit ls)) → D.nx [v0, some (.ref pl), v2, v3, v4, v5, v6, v7, v8, v9, v10, v11, v12, v13, v14, v15, v16, v17, v18, v19, v20, v21, v22, v23, v24, v25, some (.ref ll), v27, some (.ref L), v29, v30] H') →
      t D [v0, some (.ref pl), v2, v3, v4, v5, v6, v7, v8, v9, v10, v11, v12, v13, v14, v15, v16, v17, v18, v19, v20, v21, v22, v23, v24, v25, some (.ref ll), v27, u28, v29, v30] H := by
  refine ⟨_, ps_setLc (i := 28) (own := [("row", 27)]) (g := gName 27) rfl scA.nd rfl rfl (by rfl) (pi_list (pe_call l.GS (hr.mono (by decide)) rfl l.mS l.kS l.bS .nil pass0 (pa_cons (pv 1) pa_nil))) (blkOk_by (N := NA) (sc := defScope sLaw) (by decide +kernel))
      (fun _ _ _ _ _ => pg_name (i := 27) scA.nd rfl (Or.inr rfl) (Or.inl rfl))
      (fun _ _ _ _ _ => pts_one (pt_cmpR (op_eqDK K rfl hr.units)
        (pe_lc (own := [("names", 14)]) (g := gName 14) rfl scA.nd (pi_listK K rfl (pv 26)) (blkOk_by (N := NA) (sc := relS sc18 (defScope sLaw)) (by decide +kernel)) (fun _ _ _ _ _ => pg_name (i := 14) scA.nd rfl (Or.inl rfl) (Or.inr rfl))
          (fun _ _ _ _ _ => pts_one (pt_cmpR (op_eqDK K rfl hr.units)
            (pe_lc (own := [("name", 5)]) (g := gName 5) rfl scA.nd (pi_tupK K rfl (pv 14)) (blkOk_by (N := NA) (sc := relS sc19 (relS sc18 (defScope sLaw))) (by decide +kernel)) (fun _ _ _ _ _ => pg_name (i := 5) scA.nd rfl (Or.inl rfl) (Or.inr rfl))
              (fun _ _ _ _ _ => pts_one (pt_cmpR (op_in_seqK K rfl) (pv 5) (pv 27) (by rfl))) (fun _ _ _ _ _ => pv 5))
            (pe_lst pa_nil) (by rfl)))
          (fun _ _ _ _ _ => pv 14))
        (pe_lst pa_nil) (by rfl)))
      (fun _ _ _ _ _ => pe_tup (pa_cons (pe_callB (call_len_seqK K rfl) (by rfl) m.Y.len PySem.boot_len (pa_cons (pv 27) pa_nil)) (pa_cons (pv 27) pa_nil))), fun D pl ll us ls v0 v2 v3 v4 v5 v6 v7 v8 v9 v10 v11 v12 v13 v14 v15 v16 v17 v18 v19 v20 v21 v22 v23 v24 v25 v27 v29 v30 u28 H tk ep el al hll hol k1 => ?_⟩
  refine ⟨_, rfl, pl, ppl, rfl, SqL.of ep, by decide, tk, fun G0 L0 xs g0 eL0 al0 => ⟨L0, rfl, ⟨xs, SqL.of eL0⟩, fun D1 hD1 => ?_⟩⟩
  have n1 : L0 ≠ D1 := ne_of_none eL0 hD1
  have w1 : Go T G0 (upd G0 D1 (.lst [])) := go_upd g0.2 hD1
  have f1 : Fresh H D1 := fresh_of g0 hD1
  have g01 := g0.trans w1
  have el1 := g01.at el
  have nl1 : ll ≠ D1 := ne_of_none (g0.at el) hD1
  have al0 := al0.imp fun _ _ h => NamesAt.ext h w1.t
  have us1 := al.imp fun _ _ h => NamesAt.ext h g01.t
  have eL1 := w1.at eL0
  have eD1 : upd G0 D1 (.lst []) D1 = some (.lst []) := upd_same
  refine lc_list (xs := xs) (fun i G => GoE T [D1] (upd G0 D1 (.lst [])) G ∧ ∃ acc, G D1 = some (.lst acc) ∧ All2 (SetAt G) acc (((setsOf ppl).take i).filter (hit ls))) ⟨GoE.refl w1.2, [], eD1, All2.nil⟩ (fun i G _ h => h.1.seq (SqL.of eL1) (by simpa using n1)) (fun i x G hx h => ?_) (fun G h => ?_)
  · obtain ⟨g, acc, eD, aa⟩ := h
    obtain ⟨p, hp, u, rfl, eu⟩ := al0.at hx
    have hpm := List.mem_of_getElem? hp
    have hp4 := sets_in p hpm
    have eu := g.t _ _ eu
    have elG := g.at el1 (by simpa using nl1)
    have usG := us1.imp fun _ _ h => NamesAt.ext h g.t
    have hacc : acc.length ≤ 16 := by
      rw [aa.1]
      have h1 := List.length_filter_le (hit ls) ((setsOf ppl).take i)
      rw [List.length_take, sets16] at h1
      omega
    refine ⟨rfl, _, rfl, ll, rfl, ⟨us, SqL.of elG⟩, fun D2 hD2 => ?_⟩
    have n2 : ll ≠ D2 := ne_of_none elG hD2
    have w2 : Go T G (upd G D2 (.lst [])) := go_upd g.2 hD2
    have f2 : Fresh G D2 := fresh_none hD2
    have us2 := usG.imp fun _ _ h => NamesAt.ext h w2.t
    have eu2 := w2.t _ _ eu
    have el2 := w2.at elG
    have eD2 : upd G D2 (.lst []) D2 = some (.lst []) := upd_same
    have hDD : D1 ≠ D2 := ne_of_none eD hD2
    refine lc_list (xs := us) (fun j F => GoE T [D2] (upd G D2 (.lst [])) F ∧ ∃ acc2, F D2 = some (.lst acc2) ∧ All2 (NamesAt F) acc2 (missed p (ls.take j))) ⟨GoE.refl w2.2, [], eD2, All2.nil⟩ (fun j F _ h => h.1.seq (SqL.of el2) (by simpa using n2)) (fun j x F hx h => ?_) (fun F h => ?_)
    · obtain ⟨gF, acc2, eDF, aF⟩ := h
      obtain ⟨o, ho, v, rfl, ev⟩ := us2.at hx
      obtain ⟨ho30, hok⟩ := hol o (List.mem_of_getElem? ho)
      have ev := gF.t _ _ ev
      have euF := gF.t _ _ eu2
      have hacc2 : acc2.length ≤ 20 := by
        rw [aF.1]
        unfold missed
        have h1 := List.length_filter_le (fun o => decide (inRow p o = [])) (ls.take j)
        rw [List.length_take] at h1
        omega
      refine ⟨rfl, _, rfl, v, rfl, ⟨_, SqT.of ev⟩, fun D3 hD3 => ?_⟩
      have w3 : Go T F (upd F D3 (.lst [])) := go_upd gF.2 hD3
      have f3 : Fresh F D3 := fresh_none hD3
      have eu3 := w3.t _ _ euF
      have ev3 := w3.t _ _ ev
      have eD3 : upd F D3 (.lst []) D3 = some (.lst []) := upd_same
      have hD23 : D2 ≠ D3 := ne_of_none eDF hD3
      refine lc_tup (xs := o.map V.str) (fun k B => GoE T [D3] (upd F D3 (.lst [])) B ∧ B D3 = some (.lst ((inRow p (o.take k)).map V.str))) ⟨GoE.refl w3.2, eD3⟩ (fun k B _ h => SqT.of (h.1.t _ _ ev3)) (fun k x B hx h => ?_) (fun B h => ?_)
      · obtain ⟨gB, eDB⟩ := h
        obtain ⟨y, hy, rfl⟩ := str_at hx
        refine ⟨rfl, _, rfl, _, rfl, u, _, rfl, .inr (SqT.of (gB.t _ _ eu3)), rfl, flat_strs _, _, rfl, ?_⟩
        rw [if_neg Bool.false_ne_true, inV_str]
        have e9 : inRow p (o.take (k + 1)) = inRow p (o.take k) ++ (if decide (y ∈ p) = true then [y] else []) := filter_snoc hy
        rw [e9]
        by_cases z : y ∈ p
        · rw [decide_eq_true z, if_pos rfl]
          refine (if_pos rfl).mpr ⟨_, rfl, _, eDB, ?_, gB.trans (go_set gB.2 eDB mu_lst (by simp)), by rw [upd_same, List.map_append]; rfl⟩
          rw [List.length_map, sizeLine_eq]
          unfold inRow
          have h1 := List.length_filter_le (fun n => decide (n ∈ p)) (o.take k)
          rw [List.length_take] at h1
          omega
        · rw [decide_eq_false z, if_neg Bool.false_ne_true, List.append_nil]
          exact (if_neg Bool.false_ne_true).mpr ⟨gB, eDB⟩
      · obtain ⟨gB, eDB⟩ := h
        rw [List.length_map, List.take_length] at eDB
        have g3 : Go T F B := GoE.news w3 gB fun b hb => by rw [List.mem_singleton.mp hb]; exact f3
        refine ⟨by decide, fun L3 hL3 => ?_⟩
        have w4 : Go T B (upd B L3 (.lst [])) := go_upd g3.2 hL3
        have hio : ∀ x ∈ inRow p o, okS x := fun x hx => hok x (List.mem_filter.mp hx).1
        have ee : upd B L3 (.lst []) L3 = some (.lst []) := upd_same
        generalize upd B L3 (.lst []) = B4 at w4 ee ⊢
        have g4 := g3.trans w4
        refine ⟨_, _, .lst (SqL.of (w4.at eDB)) (dp_strs _), .lst (SqL.of ee) .nil, sh_l hio, by decide, _, rfl, ?_⟩
        rw [eqv_nil hio]
        have e9 : missed p (ls.take (j + 1)) = missed p (ls.take j) ++ (if decide (inRow p o = []) = true then [o] else []) := filter_snocG ho
        rw [e9]
        have eDB4 := g4.at eDF
        have aB := aF.imp fun _ _ h => NamesAt.ext h g4.t
        by_cases z : inRow p o = []
        · rw [decide_eq_true z, if_pos rfl]
          have w5 : GoE T [D2] B4 (upd B4 D2 (.lst (acc2 ++ [.ref v]))) := go_set w4.2 eDB4 mu_lst (by simp)
          refine (if_pos rfl).mpr ⟨_, rfl, acc2, eDB4, by rw [sizeLine_eq]; omega, (gF.trans (Go.any g4)).trans w5, _, upd_same, ?_⟩
          exact (aB.imp fun _ _ h => NamesAt.ext h w5.t).snoc ⟨v, rfl, w5.t _ _ (g4.t _ _ ev)⟩
        · rw [decide_eq_false z, if_neg Bool.false_ne_true, List.append_nil]
          exact (if_neg Bool.false_ne_true).mpr ⟨gF.trans (Go.any g4), acc2, eDB4, aB⟩
    · obtain ⟨gF, acc2, eDF, aF⟩ := h
      rw [List.take_of_length_le (Nat.le_of_eq us2.1.symm)] at aF
      have g2 : Go T G F := GoE.news w2 gF fun b hb => by rw [List.mem_singleton.mp hb]; exact f2
      refine ⟨by decide, fun L3 hL3 => ?_⟩
      have w4 : Go T F (upd F L3 (.lst [])) := go_upd g2.2 hL3
      have ee : upd F L3 (.lst []) L3 = some (.lst []) := upd_same
      generalize upd F L3 (.lst []) = F4 at w4 ee ⊢
      have g4 := g2.trans w4
      have hmo : ∀ l ∈ missed p ls, ∀ x ∈ l, okS x := fun l hl => (hol l (List.mem_filter.mp hl).1).2
      refine ⟨_, _, .lst (SqL.of (w4.at eDF)) (dp_names (aF.imp fun _ _ h => NamesAt.ext h w4.t)), .lst (SqL.of ee) .nil, pl_shaped (pl_names hmo) (by decide), by decide, _, rfl, ?_⟩
      rw [eqv_nils hmo, missed_nil, filter_snocG hp]
      have eD4 := g4.at eD
      have a4 := aa.imp fun _ _ h => SetAt.go h g4.t
      have eu4 := g4.t _ _ eu
      have gg := g.trans (Go.any g4)
      by_cases z : hit ls p = true
      · rw [if_pos z]
        refine (if_pos z).mpr ⟨_, rfl, u, _, rfl, .inr (SqT.of eu4), _, rfl, by show 2 ≤ sizeLine; decide, fun t ht => ?_⟩
        rw [List.length_map]
        have w5 : Go T F4 (upd F4 t (.tup [.int p.length, .ref u])) := go_upd w4.2 ht
        have et : upd F4 t (.tup [.int p.length, .ref u]) t = some (.tup [.int p.length, .ref u]) := upd_same
        generalize upd F4 t (.tup [.int p.length, .ref u]) = F5 at w5 et ⊢
        have eD5 := w5.at eD4
        have w6 : GoE T [D1] F5 (upd F5 D1 (.lst (acc ++ [.ref t]))) := go_set w5.2 eD5 mu_lst (by simp)
        refine ⟨acc, eD5, by rw [sizeLine_eq]; omega, (gg.trans (Go.any w5)).trans w6, _, upd_same, ?_⟩
        exact (a4.imp fun _ _ h => (h.go w5.t).go w6.t).snoc ⟨t, u, rfl, w6.t _ _ et, w6.t _ _ (w5.t _ _ eu4)⟩
      · rw [if_neg z, List.append_nil]
        exact (if_neg z).mpr ⟨gg, acc, eD4, a4⟩
  · obtain ⟨g, acc, eD, aa⟩ := h
    rw [List.take_of_length_le (Nat.le_of_eq al0.1.symm)] at aa
    have gG : Go T H G := GoE.news g01 g fun b hb => by rw [List.mem_singleton.mp hb]; exact f1
    exact k1 G D1 acc gG eD aa
end
end R
end Text_R43
section Text_R44
set_option Elab.async false
set_option linter.all false
set_option maxRecDepth 100000
set_option maxHeartbeats 4000000
namespace R
open PySem PySem.Spec PyProof.Rows L2 Gx GxR LamY LamZ
open PySem.W (alike dataLt)

/-! ### the fewest, of all people and of those that are named -/
theorem sets_iff : ∀ (l r : List Str) (f : List (List Str)), r ∈ l.foldl (fun f n => f ++ f.map (· ++ [n])) f ↔ ∃ a ∈ f, ∃ b, b.Sublist l ∧ r = a ++ b
  | [], r, f => by
    constructor
    · exact fun h => ⟨r, h, [], List.Sublist.refl _, (List.append_nil r).symm⟩
    · rintro ⟨a, ha, b, hb, rfl⟩
      rw [List.sublist_nil.mp hb, List.append_nil]
      exact ha
  | n :: l, r, f => by
    show r ∈ l.foldl (fun f n => f ++ f.map (· ++ [n])) (f ++ f.map (· ++ [n])) ↔ _
    rw [sets_iff l r]
    constructor
    · rintro ⟨a, ha, b, hb, rfl⟩
      rcases List.mem_append.mp ha with ha | ha
      · exact ⟨a, ha, b, hb.cons _, rfl⟩
      · obtain ⟨c, hc, rfl⟩ := List.mem_map.mp ha
        exact ⟨c, hc, n :: b, hb.cons_cons _, by rw [List.append_assoc]; rfl⟩
    · rintro ⟨a, ha, b, hb, rfl⟩
      rcases List.sublist_cons_iff.mp hb with hb2 | ⟨b', e, hb2⟩
      · exact ⟨a, List.mem_append_left _ ha, b, hb2, rfl⟩
      · exact ⟨a ++ [n], List.mem_append_right _ (List.mem_map.mpr ⟨a, ha, rfl⟩), b', hb2, by rw [e, List.append_assoc]; rfl⟩
theorem mem_sets {l r : List Str} : r ∈ setsOf l ↔ r.Sublist l := by
  unfold setsOf
  rw [sets_iff]
  constructor
  · rintro ⟨a, ha, b, hb, rfl⟩
    rw [List.mem_singleton.mp ha]
    exact hb
  · exact fun h => ⟨[], List.mem_singleton.mpr rfl, r, h, rfl⟩
/-- rows that rise: the lesser set stands in the other -/
theorem sub_of : ∀ (t l : List Str), l.Pairwise leS → l.Nodup → t.Pairwise leS → (∀ x ∈ l, x ∈ t) → l.Sublist t
  | [], l, _, _, _, h => by
    cases l with
    | nil => exact List.Sublist.refl _
    | cons x r => exact absurd (h x List.mem_cons_self) (by simp)
  | y :: t, [], _, _, _, _ => List.nil_sublist _
  | y :: t, x :: r, hl, hn, ht, h => by
    obtain ⟨l1, l2⟩ := List.pairwise_cons.mp hl
    obtain ⟨n1, n2⟩ := List.nodup_cons.mp hn
    obtain ⟨t1, t2⟩ := List.pairwise_cons.mp ht
    by_cases e : x = y
    · subst e
      refine (sub_of t r l2 n2 t2 fun z hz => ?_).cons_cons _
      rcases List.mem_cons.mp (h z (List.mem_cons_of_mem _ hz)) with e | e
      · exact absurd (e ▸ hz) n1
      · exact e
    · have hx : x ∈ t := by
        rcases List.mem_cons.mp (h x List.mem_cons_self) with q | q
        · exact absurd q e
        · exact q
      refine (sub_of t (x :: r) hl hn t2 fun z hz => ?_).cons _
      rcases List.mem_cons.mp (h z hz) with q | q
      · rcases List.mem_cons.mp hz with z1 | z1
        · exact absurd (z1.symm.trans q) e
        · subst q
          exact absurd (leS_anti (l1 z z1) (t1 x hx)) e
      · exact q
theorem ppl_pw : ppl.Pairwise leS := sorted_pw _ (by decide +kernel)
theorem ppl_nd : ppl.Nodup := by decide +kernel
theorem so_ppl {l : List Str} (h : ∀ x ∈ l, x ∈ ppl) : (so l).Sublist ppl := sub_of _ _ (so_pw l) (so_nd l) ppl_pw fun x hx => h x ((mem_so l x).mp hx)
theorem ltR_tri : ∀ a ∈ setsOf ppl, ∀ b ∈ setsOf ppl, ltR a b = false → ltR b a = false → a = b := by decide +kernel
theorem hit_keep {ls : List (List Str)} {q : List Str} (h : hit ls q = true) : hit ls (q.filter fun n => decide (n ∈ so ls.flatten)) = true := by
  unfold hit at h ⊢
  rw [List.all_eq_true] at h ⊢
  intro o ho
  obtain ⟨n, hn, e⟩ := List.any_eq_true.mp (h o ho)
  exact List.any_eq_true.mpr ⟨n, List.mem_filter.mpr ⟨hn, decide_eq_true (flat_mem.mpr ⟨o, ho, of_decide_eq_true e⟩)⟩, e⟩
theorem few_same {ls : List (List Str)} {p q : List Str} (hp : ∀ o ∈ ls, ∀ n ∈ o, n ∈ ppl) (h : IsFew ((setsOf (so ls.flatten)).filter (hit ls)) p) (k : IsFew ((setsOf ppl).filter (hit ls)) q) : p = q := by
  have hS : (so ls.flatten).Sublist ppl := so_ppl fun x hx => by
    obtain ⟨o, ho, hx⟩ := List.mem_flatten.mp hx
    exact hp o ho x hx
  obtain ⟨hpm, hpl, hpr⟩ := h
  obtain ⟨kqm, kql, kqr⟩ := k
  have sub : ∀ r, r ∈ (setsOf (so ls.flatten)).filter (hit ls) → r ∈ (setsOf ppl).filter (hit ls) := fun r hr => by
    obtain ⟨a, b⟩ := List.mem_filter.mp hr
    exact List.mem_filter.mpr ⟨mem_sets.mpr ((mem_sets.mp a).trans hS), b⟩
  have hq : q ∈ (setsOf (so ls.flatten)).filter (hit ls) := by
    obtain ⟨a, b⟩ := List.mem_filter.mp kqm
    have a := mem_sets.mp a
    have fs : (q.filter fun n => decide (n ∈ so ls.flatten)).Sublist q := List.filter_sublist
    have e := fs.eq_of_length_le (kql _ (List.mem_filter.mpr ⟨mem_sets.mpr (fs.trans a), hit_keep b⟩))
    refine List.mem_filter.mpr ⟨mem_sets.mpr (sub_of _ _ (ppl_pw.sublist a) (a.nodup ppl_nd) (so_pw _) fun x hx => ?_), b⟩
    rw [← e] at hx
    exact of_decide_eq_true (List.mem_filter.mp hx).2
  have e1 := hpl q hq
  have e2 := kql p (sub p hpm)
  have el : p.length = q.length := by omega
  exact ltR_tri p (List.mem_filter.mp (sub p hpm)).1 q (List.mem_filter.mp kqm).1 (kqr p (sub p hpm) el) (hpr q hq el.symm)
/-! ### the least -/
def setD (p : List Str) : PyData := .tuple [.int p.length, rowD p]
theorem min_least (d : PyData) (ds : List PyData) : ∀ x ∈ d :: ds, dataLt x (PySem.W.minD d ds) = false := by
  have irr : ∀ a : PyData, dataLt a a = false := fun a => PyProof.Rows.lex_irrefl _
  have tr : ∀ a b c : PyData, dataLt a b = true → dataLt b c = true → dataLt a c = true := fun a b c h k => PyProof.Rows.lex_trans _ _ _ h k
  have go : ∀ (l : List PyData) (a : PyData) (p : List PyData), (∀ x ∈ p, dataLt x a = false) → dataLt a a = false → ∀ x ∈ p ++ l, dataLt x (l.foldl (fun a y => if dataLt y a then y else a) a) = false := by
    intro l
    induction l with
    | nil => intro a p h _ x hx; rw [List.append_nil] at hx; exact h x hx
    | cons y l ih =>
      intro a p h _ x hx
      rw [show p ++ y :: l = (p ++ [y]) ++ l by rw [List.append_assoc]; rfl] at hx
      rw [List.foldl_cons]
      refine ih _ (p ++ [y]) (fun z hz => ?_) (irr _) x hx
      cases e : dataLt y a with
      | true =>
        rw [if_pos rfl]
        rcases List.mem_append.mp hz with hz | hz
        · cases e2 : dataLt z y with
          | false => rfl
          | true => exact absurd (tr _ _ _ e2 e) (by rw [h z hz]; exact Bool.false_ne_true)
        · rw [List.mem_singleton.mp hz]; exact irr y
      | false =>
        rw [if_neg Bool.false_ne_true]
        rcases List.mem_append.mp hz with hz | hz
        · exact h z hz
        · rw [List.mem_singleton.mp hz]; exact e
  intro x hx
  refine go ds d [d] (fun z hz => ?_) (irr d) x (by simpa using hx)
  rw [List.mem_singleton.mp hz]
  exact irr d
theorem set_lt {p q : List Str} (hp : ∀ x ∈ p, okS x) (hq : ∀ x ∈ q, okS x) (h : dataLt (setD p) (setD q) = false) : q.length ≤ p.length ∧ (p.length = q.length → ltR p q = false) := by
  unfold setD at h
  rw [PySem.W.dataLt_pair rfl (alike_rowD p q), PySem.W.dataLt_int] at h
  by_cases e : p.length = q.length
  · refine ⟨by omega, fun _ => ?_⟩
    have e1 : PyData.eqv (.int (p.length : Int)) (.int (q.length : Int)) = true := by rw [e]; exact (pl_eqv 0 _ _ rfl rfl).mpr rfl
    rw [if_pos e1] at h
    cases e2 : PyData.eqv (rowD p) (rowD q) with
    | false => rw [e2] at h; exact h
    | true =>
      have q1 : Pl 1 (.tuple (p.map PyData.str)) = true := pl_strs hp
      have q2 : Pl 1 (.tuple (q.map PyData.str)) = true := pl_strs hq
      have e3 := (pl_eqv 1 (rowD p) (rowD q) q1 q2).mp e2
      unfold ltR
      rw [e3]
      exact PyProof.Rows.lex_irrefl _
  · have e1 : PyData.eqv (.int (p.length : Int)) (.int (q.length : Int)) = false := by
      rw [Bool.eq_false_iff]
      intro z
      have := PyData.int.inj ((pl_eqv 0 _ _ rfl rfl).mp z)
      omega
    rw [e1, if_neg Bool.false_ne_true] at h
    have := of_decide_eq_false h
    exact ⟨by omega, fun z => absurd z e⟩
theorem set_few {c : List (List Str)} {d : PyData} {ds : List PyData} {i : Nat} {q : List Str} (hc : ∀ r ∈ c, ∀ x ∈ r, okS x) (e : c.map setD = d :: ds) (hq : c[i]? = some q) (h : (d :: ds).getD i .none = PySem.W.minD d ds) : IsFew c q := by
  have hm : setD q = PySem.W.minD d ds := by
    rw [← h, ← e, List.getD_eq_getElem?_getD, List.getElem?_map, hq]
    rfl
  have qc := List.mem_of_getElem? hq
  have all : ∀ r ∈ c, q.length ≤ r.length ∧ (r.length = q.length → ltR r q = false) := fun r hr => by
    refine set_lt (hc r hr) (hc q qc) ?_
    rw [hm]
    refine min_least d ds _ ?_
    rw [← e]
    exact List.mem_map.mpr ⟨r, hr, rfl⟩
  exact ⟨qc, fun r hr => (all r hr).1, fun r hr => (all r hr).2⟩
theorem sets_alike (c : List (List Str)) : PySem.W.AlikeAll (c.map setD) := by
  refine ⟨fun x hx y hy => ?_, fun x hx => ?_⟩
  · obtain ⟨p, _, rfl⟩ := List.mem_map.mp hx
    obtain ⟨q, _, rfl⟩ := List.mem_map.mp hy
    show (alike (.int p.length) (.int q.length) && (alike (rowD p) (rowD q) && true)) = true
    rw [alike_rowD]
    rfl
  · obtain ⟨p, _, rfl⟩ := List.mem_map.mp hx
    intro z
    cases z
theorem sets_depth : ∀ c : List (List Str), PyData.depthAll (c.map setD) ≤ 2
  | [] => Nat.zero_le _
  | p :: c => by
    have h1 := sets_depth c
    have h2 := depth_strs p
    show max (PyData.depth (setD p)) (PyData.depthAll (c.map setD)) ≤ 2
    have h3 : PyData.depth (setD p) ≤ 2 := by
      show max 0 (max (PyData.depthAll (p.map .str) + 1) 0) + 1 ≤ 2
      omega
    omega
theorem dp_sets {K : PySem.W.Frag} {H : Hp} {xs : List V} {ls : List (List Str)} (al : All2 (SetAt H) xs ls) : DpAll K H xs (ls.map setD) := dp_all2 (g := setD) (fun x y h => by
  obtain ⟨t, u, rfl, et, eu⟩ := h
  exact .tup (SqT.of et) (.cons (.int _) (.cons (.tup (SqT.of eu) (dp_strs _)) .nil))) _ _ al
theorem cr_minK {X : Cx} (K : PySem.W.Frag) (hK : X.K = K) (hc : X.calm = true) (hu : X.A.units + 64 < cLine) : CallR X (.builtin "min") (rMinD K) := by
  rw [← hK]
  exact cr_minD hc hu
theorem ix_tupK {X : Cx} (K : PySem.W.Frag) (hK : X.K = K) : IxR X (rIxT K) := by
  rw [← hK]
  exact ix_tup
section
variable {P : Program} {w : World} {K : PySem.W.Frag} {mg : Str → Option Value} {base : Heap} {T : Tb} {C CR CS : Addr} {M : MD} {N : LD}
variable {f : Addr} {cdv : Value} {A : Around} {outer : List Env} {s : Shared} {H0 : Hp} {E : XK}

/-- if rules.fewest_who(one, other, who) != min(sets)[1]: .. -/
theorem st19 (hr : Room 24 (A.deeper (envOfC "law" (defScope sLaw) s.heap.objs.size f cdv))) (m : Ms P w K mg base T C CR CS M) :
    ∃ t, PS (lawCx P w K mg base f cdv A outer s H0 E) (lawBody.getD 19 noS) t ∧ ∀ (D : Ends) (r dg a b L : Addr) (ow : Owns) (gs : Gs) (ms : Int) (hs bs : List Str) (FA FB : Files) (who : Str) (ys : List V) (v0 v1 v2 v3 v4 v5 v6 v7 v8 v10 v11 v12 v13 v14 v17 v18 v19 v20 v21 v22 v23 v24 v25 v26 v27 v29 : Option V) (H : Hp), TOk T H → RAt C H r dg ow gs ms hs bs → ow.length ≤ 4 → OwOk ow → H a = some (.dK (fk FA)) → H b = some (.dK (fk FB)) → FOk FA → FOk FB →
      H L = some (.lst ys) → All2 (SetAt H) ys ((setsOf ppl).filter (hit (linesOf (need ow FA FB) who))) →
      (∀ H', Go T H H' → D.nx [v0, v1, v2, v3, v4, v5, v6, v7, v8, some (.ref a), v10, v11, v12, v13, v14, some (.ref b), some (.str who), v17, v18, v19, v20, v21, v22, v23, v24, v25, v26, v27, some (.ref L), v29, some (.ref r)] H') →
      t D [v0, v1, v2, v3, v4, v5, v6, v7, v8, some (.ref a), v10, v11, v12, v13, v14, some (.ref b), some (.str who), v17, v18, v19, v20, v21, v22, v23, v24, v25, v26, v27, some (.ref L), v29, some (.ref r)] H := by
  refine ⟨_, ps_if (pt_cmpR (op_neD hr.units) (pe_meth (pv 30) m.L.cl m.mE m.GE (hr.mono (by decide)) m.bE .nil passN (pa_cons (pv 9) (pa_cons (pv 15) (pa_cons (pv 16) pa_nil))))
      (pe_ix ix_tup (pe_callB (cr_minD rfl hr.units) (by rfl) m.Y.min (by decide +kernel) (pa_cons (pv 28) pa_nil)) pe_int (fun _ _ => rfl)) (nomark _)) (pss_one (ps_ret pe_bl)) pss_nil,
    fun D r dg a b L ow gs ms hs bs FA FB who ys v0 v1 v2 v3 v4 v5 v6 v7 v8 v10 v11 v12 v13 v14 v17 v18 v19 v20 v21 v22 v23 v24 v25 v26 v27 v29 H tk ra hl ok ea eb fa fb eL aL k1 => ?_⟩
  obtain ⟨⟨dx, o, hh, bb, er, _⟩, _⟩ := id ra
  have sml := ok.small hl
  have nms := ok.names
  have lin : ∀ o ∈ linesOf (need ow FA FB) who, (∀ n ∈ o, n ∈ ppl) ∧ o ≠ [] := fun o ho => by
    obtain ⟨q, hq, rfl, _⟩ := lines_mem ho
    obtain ⟨q1, p, e⟩ := need_ne hq
    refine ⟨fun n hn => ?_, q1⟩
    rw [e] at hn
    unfold own at hn
    obtain ⟨r', hr', hn'⟩ := fnd_mem ((mem_so _ _).mp hn)
    exact (ok r' hr').2.subset hn'
  have hS : (so (linesOf (need ow FA FB) who).flatten).Sublist ppl := so_ppl fun x hx => by
    obtain ⟨o, ho, hx⟩ := List.mem_flatten.mp hx
    exact (lin o ho).1 x hx
  have l4 : (so (linesOf (need ow FA FB) who).flatten).length ≤ 4 := hS.length_le
  have l60 : (linesOf (need ow FA FB) who).flatten.length ≤ 60 := by
    have h1 := flat_len (ls := linesOf (need ow FA FB) who) 4 fun o ho => by
      obtain ⟨q, hq, rfl, _⟩ := lines_mem ho
      obtain ⟨_, p, e⟩ := need_ne hq
      have h2 := (so_ppl (l := fnd ow p) fun x hx => by
        obtain ⟨r', hr', hn'⟩ := fnd_mem hx
        exact (ok r' hr').2.subset hn').length_le
      rw [e]
      exact h2
    have h2 := linesOf_len (need ow FA FB) who
    have h3 : (need ow FA FB).length ≤ FA.length + FB.length := Nat.le_trans (List.length_filterMap_le _ _) (chg_len FA FB)
    have h4 := fa.len
    have h5 := fb.len
    omega
  refine ⟨_, rfl, r, dx, _, rfl, er, look_no (by decide +kernel), _, rfl, _, rfl, _, rfl, r, dg, a, b, FA, FB, ow, gs, ms, hs, bs, who, rfl, ra, ea, eb, fa.ok, fb.ok, sml, nms, l60, tk, fun z => absurd z (by omega), fun _ G1 l1 p g1 e1 few => ?_⟩
  have eL1 := g1.at eL
  have aL1 := aL.imp fun _ _ h => h.go g1.t
  have pc2 : p ∈ (setsOf ppl).filter (hit (linesOf (need ow FA FB) who)) := by
    obtain ⟨x1, x2⟩ := List.mem_filter.mp few.1
    exact List.mem_filter.mpr ⟨mem_sets.mpr ((mem_sets.mp x1).trans hS), x2⟩
  have okc : ∀ r ∈ (setsOf ppl).filter (hit (linesOf (need ow FA FB) who)), ∀ x ∈ r, okS x := fun r hr x hx => (ppl_ok x ((mem_sets.mp (List.mem_filter.mp hr).1).subset hx)).1
  have hds : ∃ d ds, ((setsOf ppl).filter (hit (linesOf (need ow FA FB) who))).map setD = d :: ds := by
    cases e : (setsOf ppl).filter (hit (linesOf (need ow FA FB) who)) with
    | nil => rw [e] at pc2; cases pc2
    | cons x r => exact ⟨_, _, rfl⟩
  obtain ⟨d, ds, eds⟩ := hds
  refine ⟨_, rfl, L, ys, d, ds, rfl, SqL.of eL1, eds ▸ dp_sets aL1, eds ▸ sets_alike _, eds ▸ Nat.le_trans (sets_depth _) (by decide), fun i x hx hm => ?_⟩
  obtain ⟨q, hq, t, u, rfl, et, eu⟩ := aL1.at hx
  have few2 := set_few okc eds hq hm
  obtain rfl := few_same (fun o ho => (lin o ho).1) few few2
  refine ⟨t, _, 1, _, rfl, rfl, SqT.of et, rfl, ?_⟩
  have pk : ∀ x ∈ p, okS x := okc p pc2
  have pl : Pl 1 (.tuple (p.map PyData.str)) = true := pl_strs pk
  refine ⟨_, _, .tup (SqT.of e1) (dp_strs _), .tup (SqT.of eu) (dp_strs _), pl_shaped pl (by decide), pl_shaped pl (by decide), _, rfl, ?_⟩
  rw [show PyData.eqv (.tuple (p.map PyData.str)) (.tuple (p.map PyData.str)) = true from eqv_self pl]
  exact iteF' (by decide) (k1 _ g1)
end
end R
end Text_R44
section Text_R45
set_option Elab.async false
set_option linter.all false
set_option maxRecDepth 100000
set_option maxHeartbeats 4000000
namespace R
open PySem PySem.Spec PyProof.Rows L2 Gx GxR LamY LamZ

def spLaw (K : PySem.W.Frag) (T : Tb) : Sp := fun vs H Q _ => ∃ a xs, vs = [.ref a] ∧ SqL K H a xs ∧ intsV xs ∧ TOk T H ∧ ∀ H', Q (.bl true) H'
theorem RAt.rI {C : Addr} {H : Hp} {r d : Addr} {ow : Owns} {gs : List (Str × Int)} {ms : Int} {hs bs : List Str} (a : RAt C H r d ow gs ms hs bs) : ∃ dx fs, H r = some (.ins C dx fs) := by
  obtain ⟨⟨dx, o, h, b, e1, _⟩, _⟩ := a
  exact ⟨_, _, e1⟩
theorem GoE.to {T : Tb} {S S' : List Addr} {H G0 G : Hp} (h : GoE T S H G0) (g : GoE T S' G0 G) (m : ∀ b ∈ S', b ∈ S) : GoE T S H G := h.trans (g.mono m)
theorem lf_len (FA FB : Files) (ms : Int) (bs : List Str) (l : List Str) : (l.flatMap (lfault FA FB ms bs)).length ≤ 2 * l.length := by
  induction l with
  | nil => exact Nat.le_refl _
  | cons p r ih =>
    rw [List.flatMap_cons, List.length_append, List.length_cons]
    have : (lfault FA FB ms bs p).length ≤ 2 := by
      unfold lfault
      split <;> split <;> simp
    omega
theorem need_len (ow : Owns) (A B : Files) : (need ow A B).length ≤ A.length + B.length := Nat.le_trans (List.length_filterMap_le _ _) (chg_len A B)
section
variable {P : Program} {w : World} {K : PySem.W.Frag} {mg : Str → Option Value} {base : Heap} {T : Tb} {C CR CS : Addr} {M : MD} {N : LD}
variable {f : Addr} {cdv : Value} {A : Around} {outer : List Env} {s : Shared} {H0 : Hp} {E : XK}

theorem ok_law {fd : FuncData} {cm : Addr} (F : FunC K "law" "law" sLaw f cm fd) (m : Ms P w K mg base T C CR CS M) (l : La P w K mg base T CS N) (bm : LamX.TabB base mg cm T.m) : FnOk P w K mg base CX0 25 f fd ["script"] (spLaw K T) := by
  refine F.ok scA (fun vs H Q E h => ?_) (fun A outer s H vs Q E hr h => ?_)
  · obtain ⟨a, xs, rfl, _⟩ := h
    rfl
  · obtain ⟨a, xs, rfl, hx, hi, tk, k1⟩ := h
    obtain ⟨t0, p0, q0⟩ := st0 (H0 := H) (E := E) (outer := outer) (s := s) (f := f) hr m
    obtain ⟨t1, p1, q1⟩ := st1 (H0 := H) (E := E) (outer := outer) (s := s) (f := f) hr m l
    obtain ⟨t2, p2, q2⟩ := st2 (H0 := H) (E := E) (outer := outer) (s := s) (f := f) hr m
    obtain ⟨t3, p3, q3⟩ := st3 (H0 := H) (E := E) (outer := outer) (s := s) (f := f) hr m l bm
    obtain ⟨t4, p4, q4⟩ := st4 (H0 := H) (E := E) (outer := outer) (s := s) (f := f) hr l
    obtain ⟨t5, p5, q5⟩ := st5 (H0 := H) (E := E) (outer := outer) (s := s) (f := f) hr m
    obtain ⟨t6, p6, q6⟩ := st6 (H0 := H) (E := E) (outer := outer) (s := s) (f := f) hr m
    obtain ⟨t7, p7, q7⟩ := st7 (H0 := H) (E := E) (outer := outer) (s := s) (f := f) hr m l
    obtain ⟨t8, p8, q8⟩ := st8 (H0 := H) (E := E) (outer := outer) (s := s) (f := f) hr l
    obtain ⟨t9, p9, q9⟩ := st9 (H0 := H) (E := E) (outer := outer) (s := s) (f := f) hr m l
    obtain ⟨t10, p10, q10⟩ := st10 (H0 := H) (E := E) (outer := outer) (s := s) (f := f) hr m l
    obtain ⟨t11, p11, q11⟩ := st11 (H0 := H) (E := E) (outer := outer) (s := s) (f := f) hr m
    obtain ⟨t12, p12, q12⟩ := st12 (H0 := H) (E := E) (outer := outer) (s := s) (f := f) hr m
    obtain ⟨t13, p13, q13⟩ := st13 (H0 := H) (E := E) (outer := outer) (s := s) (f := f) hr l
    obtain ⟨t14, p14, q14⟩ := st14 (H0 := H) (E := E) (outer := outer) (s := s) (f := f) hr m l
    obtain ⟨t15, p15, q15⟩ := st15 (H0 := H) (E := E) (outer := outer) (s := s) (f := f) hr m
    obtain ⟨t16, p16, q16⟩ := st16 (H0 := H) (E := E) (outer := outer) (s := s) (f := f) hr m
    obtain ⟨t17, p17, q17⟩ := st17 (H0 := H) (E := E) (outer := outer) (s := s) (f := f) hr
    obtain ⟨t18, p18, q18⟩ := st18 (H0 := H) (E := E) (outer := outer) (s := s) (f := f) hr m l
    obtain ⟨t19, p19, q19⟩ := st19 (H0 := H) (E := E) (outer := outer) (s := s) (f := f) hr m
    refine ⟨_, pss_cons (ps_set (i := 1) scA.nd rfl (Or.inr rfl) (pe_lst (pa_cons pe_str (pa_cons pe_str (pa_cons pe_str (pa_cons pe_str pa_nil))))))
      (pss_cons (ps_for PassesOwn.never rfl (pi_list (pe_call l.GR (hr.mono (by decide)) rfl l.mR l.kR l.bR .nil pass0 (pa_cons (pv 0) (pa_cons pe_int pa_nil)))) (pg_name (i := 2) scA.nd rfl (Or.inr rfl))
        (pss_cons p0 (pss_cons p1 (pss_cons p2 (pss_cons p3 (pss_cons p4 (pss_cons p5 (pss_cons p6 (pss_cons p7 (pss_cons p8 (pss_cons p9 (pss_cons p10 (pss_cons p11 (pss_cons p12 (pss_cons p13 (pss_cons p14 (pss_cons p15 (pss_cons p16 (pss_cons p17 (pss_cons p18 (pss_one p19)))))))))))))))))))))
      (pss_one (ps_ret (pe_call0 l.GP (hr.mono (by decide)) rfl l.mP l.kP l.bP .nil pass0)))), ?_⟩
    refine ⟨by show 4 ≤ sizeLine; decide, fun p hp => ?_⟩
    have wp : Go T H (upd H p (.lst [.str "ann", .str "bob", .str "cy", .str "di"])) := go_upd tk hp
    have ep : upd H p (.lst [.str "ann", .str "bob", .str "cy", .str "di"]) p = some (.lst (ppl.map V.str)) := upd_same
    generalize upd H p (.lst [.str "ann", .str "bob", .str "cy", .str "di"]) = Hp1 at wp ep ⊢
    refine ⟨_, rfl, a, xs, rfl, wp.seq hx, hi, wp.2, fun G0 ll d g0 el dk nl => ⟨ll, rfl, ⟨_, SqL.of el⟩, for_list (xs := [.ref d]) (fun i σ G => TOk T G ∧ G ll = some (.lst [.ref d]) ∧ (i = 0 → G = G0 ∧ σ = [some (.ref a), some (.ref p)] ++ List.replicate 29 none)) ?_ ?_ ?_ ?_⟩⟩
    · exact ⟨g0.2, el, fun _ => ⟨rfl, rfl⟩⟩
    · intro i σ G _ h
      exact SqL.of h.2.1
    · intro i x σ G hix h
      obtain ⟨tG, eG, hs⟩ := h
      cases i with
      | succ i => cases hix
      | zero =>
        cases hix
        obtain ⟨rfl, rfl⟩ := hs rfl
        have ep0 := g0.at ep
        clear hs tG eG
        refine q0 _ _ _ _ _ _ _ _ _ _ _ _ _ _ _ _ _ _ _ _ _ _ _ _ _ _ _ _ _ _ _ _ _ g0.2 fun G1 r dg gd h1 fr fdg ngd ra1 egd1 => ?_
        have dk1 := dk.go h1
        have el1 := h1.at el
        have ep1 := h1.at ep0
        obtain ⟨dx1, fs1, er1⟩ := ra1.rI
        have nrd : r ≠ d := dk1.nd er1
        have ndgd : dg ≠ d := dk1.nd ra1.gd
        have ngdd : gd ≠ d := dk1.nd egd1
        have ngdr : gd ≠ r := ne_of egd1 er1 (by intro z; cases z)
        have npd : p ≠ d := dk1.nl ep1 (strs_no ppl)
        have nlr : ll ≠ r := ne_of el1 er1 (by intro z; cases z)
        have nldg : ll ≠ dg := ne_of el1 ra1.gd (by intro z; cases z)
        have npr : p ≠ r := ne_of ep1 er1 (by intro z; cases z)
        have npdg : p ≠ dg := ne_of ep1 ra1.gd (by intro z; cases z)
        refine q1 _ d p _ _ _ _ _ _ _ _ _ _ _ _ _ _ _ _ _ _ _ _ _ _ _ _ _ _ _ _ _ _ h1.2 dk1 ep1 fun G2 rl xs2 ow h2 dk2 erl2 al2 hl ok => ?_
        have ra2 := ra1.ext h2 (by simpa using nrd) (by simpa using ndgd)
        have el2 := h2.at el1 (by simpa using nl)
        have ep2 := h2.at ep1 (by simpa using npd)
        have egd2 := h2.at egd1 (by simpa using ngdd)
        obtain ⟨dx2, fs2, er2⟩ := ra2.rI
        have nrlr : rl ≠ r := ne_of erl2 er2 (by intro z; cases z)
        have nrldg : rl ≠ dg := ne_of erl2 ra2.gd (by intro z; cases z)
        have nrld : rl ≠ d := dk2.nl erl2 (rows_no al2)
        refine q2 _ _ _ _ _ _ _ _ _ _ _ _ _ _ _ _ _ _ _ _ _ _ _ _ _ _ _ _ _ _ _ _ _ _ _ _ _ _ _ _ _ h2.2 ra2 erl2 al2 hl ok fun G3 h3 ra3 => ?_
        have dk3 := dk2.goS h3 (by simpa using Ne.symm nrd)
        have el3 := h3.at el2 (by simpa using nlr)
        have ep3 := h3.at ep2 (by simpa using npr)
        have egd3 := h3.at egd2 (by simpa using ngdr)
        have erl3 := h3.at erl2 (by simpa using nrlr)
        have al3 := al2.imp fun _ _ z => z.ex h3 fun b hb => by rw [List.mem_singleton.mp hb]; exact ⟨_, er2, by intro _ z; cases z⟩
        refine q3 _ _ _ _ _ _ _ _ _ _ _ _ _ _ _ _ _ _ _ _ _ _ _ _ _ _ _ _ _ _ _ _ _ _ _ _ _ _ h3.2 dk3 ra3 egd3 ngd fun G4 gs gs2 g2 w5 w7 w8 w29 h4 dk4 ra4 eg4 gi => ?_
        have n4 : ∀ {b : Addr}, b ≠ d → b ≠ dg → b ∉ [d, dg] := fun u v z => by
          simp only [List.mem_cons, List.not_mem_nil, or_false] at z
          exact z.elim u v
        have el4 := h4.at el3 (n4 nl nldg)
        have ep4 := h4.at ep3 (n4 npd npdg)
        have erl4 := h4.at erl3 (n4 nrld nrldg)
        have al4 := al3.imp fun _ _ z => z.ex h4 fun b hb => by
          simp only [List.mem_cons, List.not_mem_nil, or_false] at hb
          rcases hb with rfl | rfl
          · exact dk3.nt
          · exact ⟨_, ra3.gd, by intro _ z; cases z⟩
        have ngd4 : g2 ≠ d := dk4.nd eg4
        refine q4 _ _ _ _ _ _ _ _ _ _ _ _ _ _ _ _ _ _ _ _ _ _ _ _ _ _ _ _ _ _ _ _ _ h4.2 dk4 fun G5 mst hl2 bl hs bs h5 dk5 ehl5 ebl5 sh sb ms1 ms5 => ?_
        have ra5 := ra4.ext h5 (by simpa using nrd) (by simpa using ndgd)
        have el5 := h5.at el4 (by simpa using nl)
        have ep5 := h5.at ep4 (by simpa using npd)
        have erl5 := h5.at erl4 (by simpa using nrld)
        have eg5 := h5.at eg4 (by simpa using ngd4)
        have al5 := al4.imp fun _ _ z => z.ex h5 fun b hb => by rw [List.mem_singleton.mp hb]; exact dk4.nt
        have nhld : hl2 ≠ d := dk5.nl ehl5 (strs_no hs)
        have nbld : bl ≠ d := dk5.nl ebl5 (strs_no bs)
        obtain ⟨dx5, fs5, er5⟩ := ra5.rI
        have nhlr : hl2 ≠ r := ne_of ehl5 er5 (by intro z; cases z)
        have nblr : bl ≠ r := ne_of ebl5 er5 (by intro z; cases z)
        have ngr : g2 ≠ r := ne_of eg5 er5 (by intro z; cases z)
        refine q5 _ _ _ _ _ _ _ _ _ _ _ _ _ _ _ _ _ _ _ _ _ _ _ _ _ _ _ _ _ _ _ _ _ _ _ _ _ _ _ _ _ h5.2 ra5 ehl5 ebl5 sh sb ms1 fun G6 h6 ra6 => ?_
        have dk6 := dk5.goS h6 (by simpa using Ne.symm nrd)
        have el6 := h6.at el5 (by simpa using nlr)
        have ep6 := h6.at ep5 (by simpa using npr)
        have erl6 := h6.at erl5 (by simpa using nrlr)
        have eg6 := h6.at eg5 (by simpa using ngr)
        have ehl6 := h6.at ehl5 (by simpa using nhlr)
        have ebl6 := h6.at ebl5 (by simpa using nblr)
        have al6 := al5.imp fun _ _ z => z.ex h6 fun b hb => by rw [List.mem_singleton.mp hb]; exact ⟨_, er5, by intro _ z; cases z⟩
        refine q6 _ r dg g2 rl hl2 bl _ _ _ _ _ _ _ _ _ _ _ _ _ _ _ _ _ _ _ _ _ _ _ _ _ _ _ _ _ _ _ _ _ h6.2 ra6 eg6 gi erl6 al6 hl ok ehl6 ebl6 sh sb fun G7 h7 => ?_
        have ngd := ngd4
        have ra7 := ra6.ext h7 (by simp) (by simp)
        have dk7 := dk6.go h7
        have al7 := al6.imp fun _ _ z => z.go h7
        have el7 := h7.at el6
        have ep7 := h7.at ep6
        have erl7 := h7.at erl6
        have eg7 := h7.at eg6
        have ehl7 := h7.at ehl6
        have ebl7 := h7.at ebl6
        refine q7 _ _ _ _ _ _ _ _ _ _ _ _ _ _ _ _ _ _ _ _ _ _ _ _ _ _ _ _ _ _ _ _ _ h7.2 dk7 ep7 fun G8 fa fb ag FA FB who agr h8 dk8 ea8 eb8 fA fB hwho eag8 hag1 hag2 => ?_
        have nld : ll ≠ d := nl
        have nad : fa ≠ d := dk8.nd ea8
        have nbd : fb ≠ d := dk8.nd eb8
        have nagd : ag ≠ d := dk8.nl eag8 (strs_no agr)
        have ra8 := ra7.ext h8 (by simpa using nrd) (by simpa using ndgd)
        have al8 := al7.imp fun _ _ z => z.ex h8 fun b hb => by rw [List.mem_singleton.mp hb]; exact dk7.nt
        have el8 := h8.at el7 (by simpa using nld)
        have ep8 := h8.at ep7 (by simpa using npd)
        have erl8 := h8.at erl7 (by simpa using nrld)
        have eg8 := h8.at eg7 (by simpa using ngd)
        have ehl8 := h8.at ehl7 (by simpa using nhld)
        have ebl8 := h8.at ebl7 (by simpa using nbld)
        refine q8 _ _ _ _ _ _ _ _ _ _ _ _ _ _ _ _ _ _ _ _ _ _ _ _ _ _ _ _ _ _ _ _ _ _ _ h8.2 ea8 eb8 fA fB fun G9 pl h9 epl9 => ?_
        have ra9 := ra8.ext h9 (by simp) (by simp)
        have dk9 := dk8.go h9
        have al9 := al8.imp fun _ _ z => z.go h9
        have el9 := h9.at el8
        have ep9 := h9.at ep8
        have erl9 := h9.at erl8
        have eg9 := h9.at eg8
        have ehl9 := h9.at ehl8
        have ebl9 := h9.at ebl8
        have ea9 := h9.at ea8
        have eb9 := h9.at eb8
        have eag9 := h9.at eag8
        have npld : pl ≠ d := dk9.nl epl9 (strs_no _)
        refine q9 _ _ _ _ _ _ _ _ _ _ _ _ _ _ _ _ _ _ _ _ _ _ _ _ _ _ _ _ _ _ _ _ _ _ _ _ _ h9.2 epl9 erl9 al9 hl ok fA fB fun G10 nl2 ys h10 enl10 aln10 => ?_
        have ra10 := ra9.ext h10 (by simp) (by simp)
        have dk10 := dk9.go h10
        have al10 := al9.imp fun _ _ z => z.go h10
        have el10 := h10.at el9
        have ep10 := h10.at ep9
        have erl10 := h10.at erl9
        have eg10 := h10.at eg9
        have ehl10 := h10.at ehl9
        have ebl10 := h10.at ebl9
        have ea10 := h10.at ea9
        have eb10 := h10.at eb9
        have eag10 := h10.at eag9
        have epl10 := h10.at epl9
        have nnld : nl2 ≠ d := dk10.nl enl10 fun x hx i z => by
          obtain ⟨j, hj, e⟩ := List.getElem_of_mem hx
          obtain ⟨q, _, t, u, e2, _⟩ := aln10.at (List.getElem?_eq_getElem hj)
          rw [e, z] at e2
          cases e2
        refine q10 _ r dg _ _ _ _ _ _ _ _ _ _ _ _ _ _ _ _ _ _ _ _ _ _ _ _ _ _ _ _ _ _ _ _ _ _ _ _ _ _ _ _ h10.2 ra10 erl10 al10 hl ok ea10 eb10 fA fB enl10 aln10 fun G11 h11 => ?_
        have ra11 := ra10.ext h11 (by simp) (by simp)
        have dk11 := dk10.go h11
        have el11 := h11.at el10
        have ep11 := h11.at ep10
        have eg11 := h11.at eg10
        have ehl11 := h11.at ehl10
        have ebl11 := h11.at ebl10
        have ea11 := h11.at ea10
        have eb11 := h11.at eb10
        have eag11 := h11.at eag10
        have epl11 := h11.at epl10
        have enl11 := h11.at enl10
        have aln11 := aln10.imp fun _ _ z => z.ext h11.t
        refine q11 _ _ _ _ _ _ _ _ _ _ _ _ _ _ _ _ _ _ _ _ _ _ _ _ _ _ _ _ _ _ _ _ _ _ h11.2 eag11 hag2 fun G12 ol h12 eol12 => ?_
        have ra12 := ra11.ext h12 (by simp) (by simp)
        have dk12 := dk11.go h12
        have el12 := h12.at el11
        have ep12 := h12.at ep11
        have eg12 := h12.at eg11
        have ehl12 := h12.at ehl11
        have ebl12 := h12.at ebl11
        have ea12 := h12.at ea11
        have eb12 := h12.at eb11
        have eag12 := h12.at eag11
        have epl12 := h12.at epl11
        have enl12 := h12.at enl11
        have aln12 := aln11.imp fun _ _ z => z.ext h12.t
        refine q12 _ r dg _ _ _ _ _ _ _ _ _ _ _ _ _ _ _ _ _ _ _ _ _ _ _ _ _ _ _ _ _ _ _ _ _ _ _ _ _ _ _ _ _ h12.2 ra12 eg12 gi hl ok ea12 eb12 fA fB eag12 hag2 enl12 aln12 eol12 fun G13 w19 w14 w22 w23 h13 => ?_
        have ra13 := ra12.ext h13 (by simp) (by simp)
        have dk13 := dk12.go h13
        have el13 := h13.at el12
        have ep13 := h13.at ep12
        have ehl13 := h13.at ehl12
        have ebl13 := h13.at ebl12
        have ea13 := h13.at ea12
        have eb13 := h13.at eb12
        have epl13 := h13.at epl12
        have enl13 := h13.at enl12
        have aln13 := aln12.imp fun _ _ z => z.ext h13.t
        refine q13 _ _ _ _ _ _ _ _ _ _ _ _ _ _ _ _ _ _ _ _ _ _ _ _ _ _ _ _ _ _ _ _ _ h13.2 dk13 fun G14 wd dl h14 dk14 hwd edl14 => ?_
        have ra14 := ra13.ext h14 (by simpa using nrd) (by simpa using ndgd)
        have el14 := h14.at el13 (by simpa using nld)
        have ep14 := h14.at ep13 (by simpa using npd)
        have ehl14 := h14.at ehl13 (by simpa using nhld)
        have ebl14 := h14.at ebl13 (by simpa using nbld)
        have ea14 := h14.at ea13 (by simpa using nad)
        have eb14 := h14.at eb13 (by simpa using nbd)
        have epl14 := h14.at epl13 (by simpa using npld)
        have enl14 := h14.at enl13 (by simpa using nnld)
        have aln14 := aln13.imp fun _ _ z => z.ext h14.t
        refine q14 _ _ _ _ _ _ _ _ _ _ _ _ _ _ _ _ _ _ _ _ _ _ _ _ _ _ _ _ _ _ _ _ _ _ _ _ h14.2 ea14 eb14 fA fB edl14 epl14 ebl14 sb fun G15 d2 w19b h15 ed15 => ?_
        have ra15 := ra14.ext h15 (by simp) (by simp)
        have el15 := h15.at el14
        have ep15 := h15.at ep14
        have ehl15 := h15.at ehl14
        have ea15 := h15.at ea14
        have eb15 := h15.at eb14
        have epl15 := h15.at epl14
        have enl15 := h15.at enl14
        have aln15 := aln14.imp fun _ _ z => z.ext h15.t
        have lnl : (lchg FA FB).length ≤ 10 := by
          have h1 := lchg_len FA FB
          have h2 := fA.len
          have h3 := fB.len
          omega
        have ndl : (need ow FA FB).length ≤ 20 := by
          have h1 := need_len ow FA FB
          have h2 := fA.len
          have h3 := fB.len
          omega
        refine q15 _ _ _ _ _ _ _ _ _ _ _ _ _ _ _ _ _ _ _ _ _ _ _ _ _ _ _ _ _ _ _ _ _ _ _ _ h15.2 ed15 ehl15 sh epl15 (fun p hp => (paths_ok fA.ok fB.ok p (lchg_mem hp)).2) hwd (by have := lf_len FA FB mst bs (lchg FA FB); omega) fun G16 d3 h16 ed16 => ?_
        have ra16 := ra15.ext h16 (by simp) (by simp)
        have el16 := h16.at el15
        have ep16 := h16.at ep15
        have ea16 := h16.at ea15
        have eb16 := h16.at eb15
        have enl16 := h16.at enl15
        have aln16 := aln15.imp fun _ _ z => z.ext h16.t
        refine q16 _ r dg _ _ _ _ _ _ _ _ _ _ _ _ _ _ _ _ _ _ _ _ _ _ _ _ _ _ _ _ _ _ _ _ _ _ _ _ _ _ h16.2 ra16 ea16 eb16 fA fB sh sb ed16 fun G17 h17 => ?_
        have ra17 := ra16.ext h17 (by simp) (by simp)
        have el17 := h17.at el16
        have ep17 := h17.at ep16
        have ea17 := h17.at ea16
        have eb17 := h17.at eb16
        have enl17 := h17.at enl16
        have aln17 := aln16.imp fun _ _ z => z.ext h17.t
        refine q17 _ _ _ _ _ _ _ _ _ _ _ _ _ _ _ _ _ _ _ _ _ _ _ _ _ _ _ _ _ _ _ _ _ _ _ h17.2 enl17 aln17 ndl fun G18 L us h18 eL18 alu18 => ?_
        have ra18 := ra17.ext h18 (by simp) (by simp)
        have el18 := h18.at el17
        have ep18 := h18.at ep17
        have ea18 := h18.at ea17
        have eb18 := h18.at eb17
        refine q18 _ _ _ _ _ _ _ _ _ _ _ _ _ _ _ _ _ _ _ _ _ _ _ _ _ _ _ _ _ _ _ _ _ _ _ h18.2 ep18 eL18 alu18 (Nat.le_trans (linesOf_len _ _) ndl) (fun o ho => ?_) fun G19 L2 zs h19 eL19 alz19 => ?_
        · obtain ⟨q, hq, rfl, _⟩ := lines_mem ho
          obtain ⟨_, p', e'⟩ := need_ne hq
          rw [e']
          exact ⟨own_len (ok.small hl) p', own_ok ok.names p'⟩
        have ra19 := ra18.ext h19 (by simp) (by simp)
        have el19 := h19.at el18
        have ea19 := h19.at ea18
        have eb19 := h19.at eb18
        refine q19 _ r dg _ _ _ _ _ _ _ _ _ _ _ _ _ _ _ _ _ _ _ _ _ _ _ _ _ _ _ _ _ _ _ _ _ _ _ _ _ _ _ h19.2 ra19 hl ok ea19 eb19 fA fB eL19 alz19 fun G20 h20 => ?_
        exact ⟨h20.2, h20.at el19, fun z => by cases z⟩
    · intro σ G h
      exact ⟨rfl, h.1, fun G' _ => k1 G'⟩
end
end R
end Text_R45
section Text_R46
set_option Elab.async false
set_option linter.all false
set_option maxRecDepth 100000
set_option maxHeartbeats 4000000
namespace R
open PySem PySem.Spec PyProof.Rows L2 Gx GxR LamY LamZ
/-! ### what the top has written, by names -/
def e0 : He.DefD := ⟨("changes", none), "changes", "changes", defArgs sChanges, defBody sChanges, defScope sChanges, [], []⟩
def e1 : He.DefD := ⟨("fits", none), "fits", "fits", defArgs sFits, defBody sFits, defScope sFits, [], []⟩
def e2 : He.DefD := ⟨("Rules", some "__init__"), "__init__", "Rules.__init__", defArgs sInit, defBody sInit, defScope sInit, [], []⟩
def e3 : He.DefD := ⟨("Rules", some "own"), "own", "Rules.own", defArgs sOwn, defBody sOwn, defScope sOwn, [], []⟩
def e4 : He.DefD := ⟨("Rules", some "guard"), "guard", "Rules.guard", defArgs sGuard, defBody sGuard, defScope sGuard, [], []⟩
def e5 : He.DefD := ⟨("Rules", some "limit"), "limit", "Rules.limit", defArgs sLimit, defBody sLimit, defScope sLimit, [], []⟩
def e6 : He.DefD := ⟨("Rules", some "owners_of"), "owners_of", "Rules.owners_of", defArgs sOwners, defBody sOwners, defScope sOwners, [], []⟩
def e7 : He.DefD := ⟨("Rules", some "needed"), "needed", "Rules.needed", defArgs sNeeded, defBody sNeeded, defScope sNeeded, [], []⟩
def e8 : He.DefD := ⟨("Rules", some "lacks"), "lacks", "Rules.lacks", defArgs sLacks, defBody sLacks, defScope sLacks, [], []⟩
def e9 : He.DefD := ⟨("Rules", some "faults"), "faults", "Rules.faults", defArgs sFaults, defBody sFaults, defScope sFaults, [], []⟩
def e10 : He.DefD := ⟨("Rules", some "fewest_who"), "fewest_who", "Rules.fewest_who", defArgs sFewest, defBody sFewest, defScope sFewest, [], []⟩
def e11 : He.DefD := ⟨("_law_dice", none), "_law_dice", "_law_dice", defArgs sDice, defBody sDice, defScope sDice, [], []⟩
def e12 : He.DefD := ⟨("_law_roll", none), "_law_roll", "_law_roll", defArgs sRoll, defBody sRoll, defScope sRoll, [], []⟩
def e13 : He.DefD := ⟨("_law_rounds", none), "_law_rounds", "_law_rounds", defArgs sRounds, defBody sRounds, defScope sRounds, [], []⟩
def e14 : He.DefD := ⟨("_law_told", none), "_law_told", "_law_told", defArgs sTold, defBody sTold, defScope sTold, [], []⟩
def e15 : He.DefD := ⟨("_law_files", none), "_law_files", "_law_files", defArgs sLFiles, defBody sLFiles, defScope sLFiles, [], []⟩
def e16 : He.DefD := ⟨("_law_changed", none), "_law_changed", "_law_changed", defArgs sLChg, defBody sLChg, defScope sLChg, [], []⟩
def e17 : He.DefD := ⟨("_law_owners", none), "_law_owners", "_law_owners", defArgs sLOwn, defBody sLOwn, defScope sLOwn, [], []⟩
def e18 : He.DefD := ⟨("_law_sets", none), "_law_sets", "_law_sets", defArgs sLSets, defBody sLSets, defScope sLSets, [], []⟩
def e19 : He.DefD := ⟨("_law_plain", none), "_law_plain", "_law_plain", defArgs sPlain, defBody sPlain, defScope sPlain, [], []⟩
def e20 : He.DefD := ⟨("law", none), "law", "law", defArgs sLaw, defBody sLaw, defScope sLaw, [], []⟩
def fnL : List He.DefD := [e0, e1, e2, e3, e4, e5, e6, e7, e8, e9, e10, e11, e12, e13, e14, e15, e16, e17, e18, e19, e20]
def faL : List He.Fa := [.glo "Rules", .glo "RuleError", .glo "StoreError", .glo "changes", .glo "fits", .glo "_law_dice", .glo "_law_roll", .glo "_law_rounds", .glo "_law_told", .glo "_law_files", .glo "_law_changed", .glo "_law_owners", .glo "_law_sets", .glo "_law_plain", .glo "law", .free "any", .free "all", .free "len", .free "sorted", .free "range", .free "abs", .free "int", .free "dict", .free "list", .free "tuple", .free "min", .free "str", .cls "Rules", .noat "Rules" "owners", .noat "Rules" "guarded", .noat "Rules" "most_signs", .noat "Rules" "heads", .noat "Rules" "barred", .meth "Rules" "own", .meth "Rules" "guard", .meth "Rules" "limit", .meth "Rules" "owners_of", .meth "Rules" "needed", .meth "Rules" "lacks", .meth "Rules" "faults", .meth "Rules" "fewest_who", .mkr "Rules", .exc "RuleError"]
def tfL : List He.Defn := [("fits", none), ("Rules", some "own"), ("Rules", some "lacks"), ("Rules", some "faults"), ("Rules", some "fewest_who"), ("_law_plain", none), ("law", none)]
def exL (K : PySem.W.Frag) : Bool := decide (PySem.W.subIn K (.ref (He.ga K "StoreError")) (.type "BaseException") = some true) && (decide (PySem.W.typeIn K (.ref (He.ga K "StoreError")) = some (.type "type")) && (PySem.W.isClsIn K (He.ga K "StoreError") &&
  (decide (PySem.W.subIn K (.ref (He.ga K "RuleError")) (.ref (He.ga K "StoreError")) = some true) && decide ((tfL.map fun p => (He.cT K p).2).Nodup))))
theorem fun_of {K : PySem.W.Frag} {x q : Str} {st : Stmt} {f : Addr} {fd : FuncData} (F : FunD K x q (defArgs st) (defBody st) (defScope st) [] [] f fd) : Fun K x q st f fd := by
  obtain ⟨oc, od, dV, kV, doc, pm, an, cdv, ct, osl, rfl, lk, hcd, hD, hK⟩ := F.ex
  rcases hD with ⟨_, rfl⟩ | ⟨e, _⟩
  · exact ⟨⟨oc, od, kV, doc, pm, an, cdv, ct, osl, rfl, lk, hcd⟩, F.kp⟩
  · exact absurd rfl e
theorem funC_of {K : PySem.W.Frag} {x q : Str} {st : Stmt} {p : He.Defn} {fd : FuncData} (F : FunD K x q (defArgs st) (defBody st) (defScope st) [] [] (He.fAd K p) fd) : FunC K x q st (He.fAd K p) (He.cT K p).1 fd := by
  obtain ⟨oc, od, dV, kV, doc, pm, an, cdv, ct, osl, rfl, lk, hcd, hD, hK⟩ := F.ex
  rcases hD with ⟨_, rfl⟩ | ⟨e, _⟩
  · obtain ⟨c, rfl⟩ := He.codeIn_ref hcd
    have e : (He.cT K p).1 = c := He.codeOf_eq lk rfl
    rw [e]
    exact ⟨⟨oc, od, kV, doc, pm, an, ct, osl, rfl, lk, hcd⟩, F.kp⟩
  · exact absurd rfl e
theorem tabB {base : Heap} {mg : Str → Option Value} {c P : Addr} (t : LamX.TabB base mg c P) : TabB base mg c P := ⟨t.code, t.bm, t.gP⟩
theorem law_at {l : PySem.W.OpenLaw} {w : World} {K : PySem.W.Frag} {h : Heap} {mg : Str → Option Value} {fa : Addr} (X : K.In h) (G : h.Ns mainGlobals mg) (hfa : mg "law" = some (.ref fa)) (c : He.SaysX faL fnL [] tfL exL w h K) :
    LamX.LawAtS l w K CX0 25 63 "script" mg fa h := by
  have S := c.t.d
  have e := hfa.symm.trans (He.glo_ok X G (S.fact 14 (f := .glo "law") rfl))
  cases e
  obtain ⟨x1, x2⟩ := He.ba c.more
  obtain ⟨x2, x3⟩ := He.ba x2
  obtain ⟨x3, x4⟩ := He.ba x3
  obtain ⟨x4, x5⟩ := He.ba x4
  have nd : (tfL.map fun p => (He.cT K p).2).Nodup := of_decide_eq_true x5
  obtain ⟨d0, F0⟩ := S.def_ 0 (d := e0) rfl
  have A0 : Fun K "changes" "changes" sChanges (He.fAd K ("changes", none)) d0 := fun_of F0
  have b0 : Binds K d0 ["one", "other"] [] := Fun.binds A0 fun _ _ _ _ _ _ us hl => match us, hl with | [_, _], _ => rfl
  have m0 : mg "changes" = some (.ref (He.fAd K ("changes", none))) := He.glo_ok X G (S.fact 3 (f := .glo "changes") rfl)
  have k0 := A0.kp
  obtain ⟨d1, F1⟩ := S.def_ 1 (d := e1) rfl
  have A1 : FunC K "fits" "fits" sFits (He.fAd K ("fits", none)) (He.cT K ("fits", none)).1 d1 := funC_of F1
  have b1 : Binds K d1 ["pattern", "path"] [] := Fun.binds A1.fn fun _ _ _ _ _ _ us hl => match us, hl with | [_, _], _ => rfl
  have m1 : mg "fits" = some (.ref (He.fAd K ("fits", none))) := He.glo_ok X G (S.fact 4 (f := .glo "fits") rfl)
  have k1 := A1.fn.kp
  obtain ⟨d2, F2⟩ := S.def_ 2 (d := e2) rfl
  have A2 : Fun K "__init__" "Rules.__init__" sInit (He.fAd K ("Rules", some "__init__")) d2 := fun_of F2
  have b2 : Binds K d2 ["self"] [] := Fun.binds A2 fun _ _ _ _ _ _ us hl => match us, hl with | [_], _ => rfl
  obtain ⟨d3, F3⟩ := S.def_ 3 (d := e3) rfl
  have A3 : FunC K "own" "Rules.own" sOwn (He.fAd K ("Rules", some "own")) (He.cT K ("Rules", some "own")).1 d3 := funC_of F3
  have b3 : Binds K d3 ["self", "rows"] [] := Fun.binds A3.fn fun _ _ _ _ _ _ us hl => match us, hl with | [_, _], _ => rfl
  have m3 : Meth K (He.ga K "Rules") "own" (He.fAd K ("Rules", some "own")) := He.meth_ok (S.fact 33 (f := .meth "Rules" "own") rfl)
  obtain ⟨d4, F4⟩ := S.def_ 4 (d := e4) rfl
  have A4 : Fun K "guard" "Rules.guard" sGuard (He.fAd K ("Rules", some "guard")) d4 := fun_of F4
  have b4 : Binds K d4 ["self", "name", "many"] [] := Fun.binds A4 fun _ _ _ _ _ _ us hl => match us, hl with | [_, _, _], _ => rfl
  have m4 : Meth K (He.ga K "Rules") "guard" (He.fAd K ("Rules", some "guard")) := He.meth_ok (S.fact 34 (f := .meth "Rules" "guard") rfl)
  obtain ⟨d5, F5⟩ := S.def_ 5 (d := e5) rfl
  have A5 : Fun K "limit" "Rules.limit" sLimit (He.fAd K ("Rules", some "limit")) d5 := fun_of F5
  have b5 : Binds K d5 ["self", "most_signs", "heads", "barred"] [] := Fun.binds A5 fun _ _ _ _ _ _ us hl => match us, hl with | [_, _, _, _], _ => rfl
  have m5 : Meth K (He.ga K "Rules") "limit" (He.fAd K ("Rules", some "limit")) := He.meth_ok (S.fact 35 (f := .meth "Rules" "limit") rfl)
  obtain ⟨d6, F6⟩ := S.def_ 6 (d := e6) rfl
  have A6 : Fun K "owners_of" "Rules.owners_of" sOwners (He.fAd K ("Rules", some "owners_of")) d6 := fun_of F6
  have b6 : Binds K d6 ["self", "path"] [] := Fun.binds A6 fun _ _ _ _ _ _ us hl => match us, hl with | [_, _], _ => rfl
  have m6 : Meth K (He.ga K "Rules") "owners_of" (He.fAd K ("Rules", some "owners_of")) := He.meth_ok (S.fact 36 (f := .meth "Rules" "owners_of") rfl)
  obtain ⟨d7, F7⟩ := S.def_ 7 (d := e7) rfl
  have A7 : Fun K "needed" "Rules.needed" sNeeded (He.fAd K ("Rules", some "needed")) d7 := fun_of F7
  have b7 : Binds K d7 ["self", "one", "other"] [] := Fun.binds A7 fun _ _ _ _ _ _ us hl => match us, hl with | [_, _, _], _ => rfl
  have m7 : Meth K (He.ga K "Rules") "needed" (He.fAd K ("Rules", some "needed")) := He.meth_ok (S.fact 37 (f := .meth "Rules" "needed") rfl)
  obtain ⟨d8, F8⟩ := S.def_ 8 (d := e8) rfl
  have A8 : FunC K "lacks" "Rules.lacks" sLacks (He.fAd K ("Rules", some "lacks")) (He.cT K ("Rules", some "lacks")).1 d8 := funC_of F8
  have b8 : Binds K d8 ["self", "name", "one", "other", "who", "agreed"] [] := Fun.binds A8.fn fun _ _ _ _ _ _ us hl => match us, hl with | [_, _, _, _, _, _], _ => rfl
  have m8 : Meth K (He.ga K "Rules") "lacks" (He.fAd K ("Rules", some "lacks")) := He.meth_ok (S.fact 38 (f := .meth "Rules" "lacks") rfl)
  obtain ⟨d9, F9⟩ := S.def_ 9 (d := e9) rfl
  have A9 : FunC K "faults" "Rules.faults" sFaults (He.fAd K ("Rules", some "faults")) (He.cT K ("Rules", some "faults")).1 d9 := funC_of F9
  have b9 : Binds K d9 ["self", "one", "other", "words"] [] := Fun.binds A9.fn fun _ _ _ _ _ _ us hl => match us, hl with | [_, _, _, _], _ => rfl
  have m9 : Meth K (He.ga K "Rules") "faults" (He.fAd K ("Rules", some "faults")) := He.meth_ok (S.fact 39 (f := .meth "Rules" "faults") rfl)
  obtain ⟨d10, F10⟩ := S.def_ 10 (d := e10) rfl
  have A10 : FunC K "fewest_who" "Rules.fewest_who" sFewest (He.fAd K ("Rules", some "fewest_who")) (He.cT K ("Rules", some "fewest_who")).1 d10 := funC_of F10
  have b10 : Binds K d10 ["self", "one", "other", "who"] [] := Fun.binds A10.fn fun _ _ _ _ _ _ us hl => match us, hl with | [_, _, _, _], _ => rfl
  have m10 : Meth K (He.ga K "Rules") "fewest_who" (He.fAd K ("Rules", some "fewest_who")) := He.meth_ok (S.fact 40 (f := .meth "Rules" "fewest_who") rfl)
  obtain ⟨d11, F11⟩ := S.def_ 11 (d := e11) rfl
  have A11 : Fun K "_law_dice" "_law_dice" sDice (He.fAd K ("_law_dice", none)) d11 := fun_of F11
  have b11 : Binds K d11 ["cell"] [] := Fun.binds A11 fun _ _ _ _ _ _ us hl => match us, hl with | [_], _ => rfl
  have m11 : mg "_law_dice" = some (.ref (He.fAd K ("_law_dice", none))) := He.glo_ok X G (S.fact 5 (f := .glo "_law_dice") rfl)
  have k11 := A11.kp
  obtain ⟨d12, F12⟩ := S.def_ 12 (d := e12) rfl
  have A12 : Fun K "_law_roll" "_law_roll" sRoll (He.fAd K ("_law_roll", none)) d12 := fun_of F12
  have b12 : Binds K d12 ["dice", "many"] [] := Fun.binds A12 fun _ _ _ _ _ _ us hl => match us, hl with | [_, _], _ => rfl
  have m12 : mg "_law_roll" = some (.ref (He.fAd K ("_law_roll", none))) := He.glo_ok X G (S.fact 6 (f := .glo "_law_roll") rfl)
  have k12 := A12.kp
  obtain ⟨d13, F13⟩ := S.def_ 13 (d := e13) rfl
  have A13 : Fun K "_law_rounds" "_law_rounds" sRounds (He.fAd K ("_law_rounds", none)) d13 := fun_of F13
  have b13 : Binds K d13 ["script", "most"] [] := Fun.binds A13 fun _ _ _ _ _ _ us hl => match us, hl with | [_, _], _ => rfl
  have m13 : mg "_law_rounds" = some (.ref (He.fAd K ("_law_rounds", none))) := He.glo_ok X G (S.fact 7 (f := .glo "_law_rounds") rfl)
  have k13 := A13.kp
  obtain ⟨d14, F14⟩ := S.def_ 14 (d := e14) rfl
  have A14 : Fun K "_law_told" "_law_told" sTold (He.fAd K ("_law_told", none)) d14 := fun_of F14
  have b14 : Binds K d14 ["what"] [] := Fun.binds A14 fun _ _ _ _ _ _ us hl => match us, hl with | [_], _ => rfl
  have m14 : mg "_law_told" = some (.ref (He.fAd K ("_law_told", none))) := He.glo_ok X G (S.fact 8 (f := .glo "_law_told") rfl)
  have k14 := A14.kp
  obtain ⟨d15, F15⟩ := S.def_ 15 (d := e15) rfl
  have A15 : Fun K "_law_files" "_law_files" sLFiles (He.fAd K ("_law_files", none)) d15 := fun_of F15
  have b15 : Binds K d15 ["dice"] [] := Fun.binds A15 fun _ _ _ _ _ _ us hl => match us, hl with | [_], _ => rfl
  have m15 : mg "_law_files" = some (.ref (He.fAd K ("_law_files", none))) := He.glo_ok X G (S.fact 9 (f := .glo "_law_files") rfl)
  have k15 := A15.kp
  obtain ⟨d16, F16⟩ := S.def_ 16 (d := e16) rfl
  have A16 : Fun K "_law_changed" "_law_changed" sLChg (He.fAd K ("_law_changed", none)) d16 := fun_of F16
  have b16 : Binds K d16 ["one", "other"] [] := Fun.binds A16 fun _ _ _ _ _ _ us hl => match us, hl with | [_, _], _ => rfl
  have m16 : mg "_law_changed" = some (.ref (He.fAd K ("_law_changed", none))) := He.glo_ok X G (S.fact 10 (f := .glo "_law_changed") rfl)
  have k16 := A16.kp
  obtain ⟨d17, F17⟩ := S.def_ 17 (d := e17) rfl
  have A17 : Fun K "_law_owners" "_law_owners" sLOwn (He.fAd K ("_law_owners", none)) d17 := fun_of F17
  have b17 : Binds K d17 ["rows", "path"] [] := Fun.binds A17 fun _ _ _ _ _ _ us hl => match us, hl with | [_, _], _ => rfl
  have m17 : mg "_law_owners" = some (.ref (He.fAd K ("_law_owners", none))) := He.glo_ok X G (S.fact 11 (f := .glo "_law_owners") rfl)
  have k17 := A17.kp
  obtain ⟨d18, F18⟩ := S.def_ 18 (d := e18) rfl
  have A18 : Fun K "_law_sets" "_law_sets" sLSets (He.fAd K ("_law_sets", none)) d18 := fun_of F18
  have b18 : Binds K d18 ["names"] [] := Fun.binds A18 fun _ _ _ _ _ _ us hl => match us, hl with | [_], _ => rfl
  have m18 : mg "_law_sets" = some (.ref (He.fAd K ("_law_sets", none))) := He.glo_ok X G (S.fact 12 (f := .glo "_law_sets") rfl)
  have k18 := A18.kp
  obtain ⟨d19, F19⟩ := S.def_ 19 (d := e19) rfl
  have A19 : FunC K "_law_plain" "_law_plain" sPlain (He.fAd K ("_law_plain", none)) (He.cT K ("_law_plain", none)).1 d19 := funC_of F19
  have b19 : Binds K d19 [] [] := Fun.binds A19.fn fun _ _ _ _ _ _ us hl => match us, hl with | [], _ => rfl
  have m19 : mg "_law_plain" = some (.ref (He.fAd K ("_law_plain", none))) := He.glo_ok X G (S.fact 13 (f := .glo "_law_plain") rfl)
  have k19 := A19.fn.kp
  obtain ⟨d20, F20⟩ := S.def_ 20 (d := e20) rfl
  have A20 : FunC K "law" "law" sLaw (He.fAd K ("law", none)) (He.cT K ("law", none)).1 d20 := funC_of F20
  have b20 : Binds K d20 ["script"] [] := Fun.binds A20.fn fun _ _ _ _ _ _ us hl => match us, hl with | [_], _ => rfl
  have m20 : mg "law" = some (.ref (He.fAd K ("law", none))) := He.glo_ok X G (S.fact 14 (f := .glo "law") rfl)
  have k20 := A20.fn.kp
  have Y : Tx K mg := ⟨He.free_ok X G (S.fact 15 (f := .free "any") rfl), He.free_ok X G (S.fact 16 (f := .free "all") rfl), He.free_ok X G (S.fact 17 (f := .free "len") rfl), He.free_ok X G (S.fact 18 (f := .free "sorted") rfl), He.free_ok X G (S.fact 19 (f := .free "range") rfl), He.free_ok X G (S.fact 20 (f := .free "abs") rfl), He.free_ok X G (S.fact 21 (f := .free "int") rfl), He.free_ok X G (S.fact 22 (f := .free "dict") rfl), He.free_ok X G (S.fact 23 (f := .free "list") rfl), He.free_ok X G (S.fact 24 (f := .free "tuple") rfl), He.free_ok X G (S.fact 25 (f := .free "min") rfl), He.free_ok X G (S.fact 26 (f := .free "str") rfl)⟩
  obtain ⟨q1, q2, q3, q4⟩ := He.exc_ok (S.fact 42 (f := .exc "RuleError") rfl)
  have Xr : Er K mg (He.ga K "RuleError") (He.ga K "StoreError") := ⟨He.glo_ok X G (S.fact 1 (f := .glo "RuleError") rfl), He.glo_ok X G (S.fact 2 (f := .glo "StoreError") rfl), q1, q2, q3, q4, of_decide_eq_true x1, of_decide_eq_true x2, x3, of_decide_eq_true x4⟩
  have L : Cl K mg (He.ga K "Rules") := ⟨He.cls_ok (S.fact 27 (f := .cls "Rules") rfl), He.noat_ok (S.fact 28 (f := .noat "Rules" "owners") rfl), He.noat_ok (S.fact 29 (f := .noat "Rules" "guarded") rfl), He.noat_ok (S.fact 30 (f := .noat "Rules" "most_signs") rfl), He.noat_ok (S.fact 31 (f := .noat "Rules" "heads") rfl), He.noat_ok (S.fact 32 (f := .noat "Rules" "barred") rfl), He.glo_ok X G (S.fact 0 (f := .glo "Rules") rfl)⟩
  have mm : Mk K (He.ga K "Rules") (He.fAd K ("Rules", some "__init__")) := He.mkr_ok (S.fact 41 (f := .mkr "Rules") rfl)
  let T : Tb := ⟨(He.cT K ("fits", none)).2, (He.cT K ("Rules", some "own")).2, (He.cT K ("Rules", some "lacks")).2, (He.cT K ("Rules", some "faults")).2, (He.cT K ("Rules", some "fewest_who")).2, (He.cT K ("_law_plain", none)).2, (He.cT K ("law", none)).2⟩
  have nd2 : [T.f, T.o, T.l, T.a, T.w, T.p, T.m].Nodup := nd
  refine ⟨d20, tfL.map (He.cT K), spLaw K T, fun q hq => ?_, fun q hq => ?_, fun q hq => ?_, ?_, ?_, ?_⟩
  · obtain ⟨p, hp, rfl⟩ := List.mem_map.mp hq
    exact c.empty p hp
  · obtain ⟨p, hp, rfl⟩ := List.mem_map.mp hq
    exact c.out p hp
  · obtain ⟨p, hp, rfl⟩ := List.mem_map.mp hq
    exact PySem.W.codeHd_of_K X (c.hd p hp)
  · intro s u
    exact FunD.bindsA (ps := ["script"]) F20 (fun _ _ _ _ _ _ us hl => match us, hl with | [_], _ => rfl) s [u] rfl
  · intro H a ns _ _ hT hS
    have g : ∀ p ∈ tfL, H (He.cT K p).2 = some (.tbl #[]) := fun p hp => hT (He.cT K p) (List.mem_map.mpr ⟨p, hp, rfl⟩)
    refine ⟨a, _, rfl, hS, fun x hx => ?_, ⟨⟨#[], g _ (by simp [tfL]), True.intro⟩, ⟨#[], g _ (by simp [tfL]), True.intro⟩, ⟨#[], g _ (by simp [tfL]), True.intro⟩, ⟨#[], g _ (by simp [tfL]), True.intro⟩, TabN.nil (g _ (by simp [tfL])), LamX.TabS.nil (g _ (by simp [tfL])), LamX.TabS.nil (g _ (by simp [tfL])), ?_, ?_, ?_⟩, fun _ => rfl⟩
    · obtain ⟨n, _, rfl⟩ := List.mem_map.mp hx
      exact ⟨n, rfl⟩
    all_goals
      simp only [List.nodup_cons, List.mem_cons, List.not_mem_nil, or_false, not_or, List.nodup_nil, and_true] at nd2 ⊢
      obtain ⟨⟨n1, n2, n3, n4, n5, n6⟩, ⟨n7, n8, n9, n10, n11⟩, ⟨n12, n13, n14, n15⟩, ⟨n16, n17, n18⟩, ⟨n19, n20⟩, n21, _⟩ := nd2
      refine ⟨?_, ?_, ?_, ?_, ?_, ?_⟩
      all_goals first | assumption | exact Ne.symm (by assumption)
  · intro base _ _ hB
    have g : ∀ p ∈ tfL, LamX.TabB base mg (He.cT K p).1 (He.cT K p).2 := fun p hp => hB (He.cT K p) (List.mem_map.mpr ⟨p, hp, rfl⟩)
    have tf : LamX.TabB base mg (He.cT K ("fits", none)).1 T.f := g _ (by simp [tfL])
    have to : LamX.TabB base mg (He.cT K ("Rules", some "own")).1 T.o := g _ (by simp [tfL])
    have tl : LamX.TabB base mg (He.cT K ("Rules", some "lacks")).1 T.l := g _ (by simp [tfL])
    have ta : LamX.TabB base mg (He.cT K ("Rules", some "faults")).1 T.a := g _ (by simp [tfL])
    have tw : LamX.TabB base mg (He.cT K ("Rules", some "fewest_who")).1 T.w := g _ (by simp [tfL])
    have tp : LamX.TabB base mg (He.cT K ("_law_plain", none)).1 T.p := g _ (by simp [tfL])
    have tm : LamX.TabB base mg (He.cT K ("law", none)).1 T.m := g _ (by simp [tfL])
    have G0 := ok_chg (P := l.prog) (w := w) (base := base) (T := T) A0 Y
    have G1 := ok_fits (P := l.prog) (w := w) A1 Y (tabB tf) m1 b1 8
    have G2 := ok_init (P := l.prog) (w := w) (mg := mg) (base := base) (T := T) A2 L
    have G3 := ok_own (P := l.prog) (w := w) A3 L Xr Y (tabB to)
    have G4 := ok_guard (P := l.prog) (w := w) (base := base) (T := T) A4 L Xr
    have G5 := ok_limit (P := l.prog) (w := w) (base := base) (T := T) A5 L Xr Y
    have G6 := ok_owners A6 L Y G1 m1 k1 b1
    have G7 := ok_need A7 L Y G0 m0 k0 b0 G6 m6 b6
    have G8 := ok_lacks A8 L Y (tabB tl) G7 m7 b7
    have G9 := ok_faults A9 L Y (tabB ta) G0 m0 k0 b0 G1 m1 k1 b1
    have G10 := ok_few A10 L Xr Y (tabB tw) G7 m7 b7
    have G11 := ok_dice (P := l.prog) (w := w) (base := base) A11 Y
    have G12 := ok_roll (P := l.prog) (w := w) (base := base) A12 Y
    have G13 := ok_rounds (T := T) A13 Y G11 m11 k11 b11
    have G15 := ok_lfiles (T := T) A15 Y G12 m12 k12 b12
    have G16 := ok_lchg (P := l.prog) (w := w) (base := base) (T := T) A16 Y
    have G17 := ok_lown A17 Y G1 m1 k1 b1
    have G18 := ok_lsets (P := l.prog) (w := w) (mg := mg) (base := base) (T := T) A18
    have Mm : Ms l.prog w K mg base T (He.ga K "Rules") (He.ga K "RuleError") (He.ga K "StoreError") ⟨_, _, _, _, _, _, _, _, _, d2, d3, d4, d5, d6, d7, d8, d9, d10⟩ :=
      ⟨L, Xr, Y, mm, G2, b2, G3, m3, b3, G4, m4, b4, G5, m5, b5, G6, m6, b6, G7, m7, b7, G8, m8, b8, G9, m9, b9, G10, m10, b10⟩
    have t14 : Tol K mg (He.ga K "StoreError") _ d14 := ⟨A14, m14, b14⟩
    have G19 := ok_plain A19 Mm tp t14
    exact ok_law (N := ⟨_, _, _, _, _, _, _, _, _, d13, d12, d15, d16, d17, d18, d19, d14, d1⟩) A20 Mm ⟨G13, m13, k13, b13, G12, m12, k12, b12, G15, m15, k15, b15, G16, m16, k16, b16, G17, m17, k17, b17, G18, m18, k18, b18, G19, m19, k19, b19, t14, G1, m1, k1, b1⟩ tm
end R
end Text_R46
section Text_R47
set_option Elab.async false
set_option linter.all false
set_option maxRecDepth 100000
set_option maxHeartbeats 0
namespace R
open PySem PySem.Spec PyProof.Rows L2
abbrev RW : PySem.W.OpenRow := PySem.W.OpenLaw.row PySem.Challenge.rw_repostack_k13_rules_that_guard
abbrev hk : PySem.W.Hook := He.hookX 6 faL fnL [] tfL exL
def ob (s : PySem.W.SharedT) : He.AlX := He.obsX 6 faL fnL [] tfL exL (HandSHeadRun.getT s)
theorem ob_eq (s : PySem.W.SharedT) : ob s = hk.obs s.abs := He.obsX_eq (HandSHeadRun.getT_eq s)
theorem run (w : World) : HandSHeadRun.RunEq RW (PySem.W.view RW.prog [18]) hk ob 3000 ["__name__", "StoreError", "RuleError", "changes", "fits", "Rules", "_law_dice", "_law_roll", "_law_rounds", "_law_told", "_law_files", "_law_changed", "_law_owners", "_law_sets", "_law_plain"] w := by
  intro os
  kernel_rfl
end R
open PySem PySem.W PySem.Calls PyProof.Rows
theorem PySem.Challenge.cw_repostack_k13_rules_that_guard_holds : PySem.Challenge.rw_repostack_k13_rules_that_guard.Holds := by
  w_on; o_law
  refine HandSHeadRun.head_any (r := OpenLaw.row PySem.Challenge.rw_repostack_k13_rules_that_guard) (q := view (OpenLaw.row PySem.Challenge.rw_repostack_k13_rules_that_guard).prog [18]) (H := R.hk) (ob := R.ob) (M := 3000) (loose := ["__name__", "StoreError", "RuleError", "changes", "fits", "Rules", "_law_dice", "_law_roll", "_law_rounds", "_law_told", "_law_files", "_law_changed", "_law_owners", "_law_sets", "_law_plain"]) (d := HandSHeadRun.topDef (OpenLaw.row PySem.Challenge.rw_repostack_k13_rules_that_guard).prog 18) (kwd := []) R.ob_eq
    (by kernel_rfl) (fun s => by kernel_rfl) R.run (by kernel_rfl) (by kernel_rfl) (by kernel_rfl) (by rfl) (by first | assumption | decide +kernel) (by decide +kernel) ⟨rfl, rfl, rfl, rfl, rfl, by decide +kernel⟩ ?hw ?hc
  case hw => w_witness2
  case hc =>
    refine LamX.walk_ofTsE (l := PySem.Challenge.rw_repostack_k13_rules_that_guard) (n := 63) (k := 25) (x := "script") (CX := fun _ => L2.CX0) rfl (by decide) (by kernel_rfl) ⟨rfl, by decide, by decide⟩ ?F (fun _ _ _ _ _ z => z)
    intro w mg fa h Y G hmg0
    obtain ⟨K, KX, c⟩ := Y
    have hmg : mg ("law" : PySem.Str) = some (.ref fa) := by
      have e : (HandSHeadRun.topDef (OpenLaw.row PySem.Challenge.rw_repostack_k13_rules_that_guard).prog 18).name = ("law" : PySem.Str) := by kernel_rfl
      rw [← e]
      exact hmg0
    exact ⟨K, KX, R.law_at KX G hmg c⟩
end Text_R47
